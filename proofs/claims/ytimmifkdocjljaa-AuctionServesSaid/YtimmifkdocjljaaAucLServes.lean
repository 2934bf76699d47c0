/- Models of functions, and that the code follows them. Written by deco.py. -/
import Derived.Test.YtimmifkdocjljaaAucAwake
namespace Go.Proofs.Ytimmifkdocjljaa
open Go.RowKit

/-- recyclinglaw51.AuctionServes -/
def m_recyclinglaw51_AuctionServes (N : Nat) (p0 : (List ApiBid)) (p1 : Int) (p2 : Int) : Option (Bool) :=
  (if 60 < (List.length p0 : Int) then
    Option.bind (m_recyclinglaw51_awake N) fun r2 => some (r2)
  else
    Option.bind (m_auction_Run N p0 p1 p2) fun r4 => (if r4.2 ≠ 0 then
      callIf (((decide ((List.length r4.1.Won : Int) = 0)) && (decide (r4.1.Price = 0))) = true) (m_recyclinglaw51_awake N) fun r8 => some ((((decide ((List.length r4.1.Won : Int) = 0)) && (decide (r4.1.Price = 0))) && r8))
    else
      (if ((decide ((List.length r4.1.Won : Int) ≠ (List.length p0 : Int))) || (decide (r4.1.Price < p2))) = true then
        some (false)
      else
        (andThen
          (loopM (fun (s171 : Int × Int × Int) =>
            (if s171.2.2 < (List.length p0 : Int) then
              (andThen
                (ck ((0 : Int) ≤ s171.2.2 ∧ s171.2.2 < (List.length p0 : Int)) (
                  (if p2 ≤ (ix p0 s171.2.2).Price then
                    ck ((0 : Int) ≤ s171.2.2 ∧ s171.2.2 < (List.length p0 : Int)) (
                      ck (I64 (s171.1 + ((ix p0 s171.2.2).Count))) (
                        some (.next (s171.1 + ((ix p0 s171.2.2).Count)))))
                  else
                    some (.next s171.1))))
              fun (s178 : Int) =>
                ck ((0 : Int) ≤ s171.2.2 ∧ s171.2.2 < (List.length r4.1.Won : Int)) (
                  ck ((!(decide ((ix r4.1.Won s171.2.2) < 0))) = true → (0 : Int) ≤ s171.2.2 ∧ s171.2.2 < (List.length r4.1.Won : Int)) (
                    ck ((!(decide ((ix r4.1.Won s171.2.2) < 0))) = true → (0 : Int) ≤ s171.2.2 ∧ s171.2.2 < (List.length p0 : Int)) (
                      ck ((!((decide ((ix r4.1.Won s171.2.2) < 0)) || (decide ((ix p0 s171.2.2).Count < (ix r4.1.Won s171.2.2))))) = true → (0 : Int) ≤ s171.2.2 ∧ s171.2.2 < (List.length r4.1.Won : Int)) (
                        ck (((!((decide ((ix r4.1.Won s171.2.2) < 0)) || (decide ((ix p0 s171.2.2).Count < (ix r4.1.Won s171.2.2))))) && (decide (0 < (ix r4.1.Won s171.2.2)))) = true → (0 : Int) ≤ s171.2.2 ∧ s171.2.2 < (List.length p0 : Int)) (
                          ck ((!(((decide ((ix r4.1.Won s171.2.2) < 0)) || (decide ((ix p0 s171.2.2).Count < (ix r4.1.Won s171.2.2)))) || ((decide (0 < (ix r4.1.Won s171.2.2))) && (decide ((ix p0 s171.2.2).Price < r4.1.Price))))) = true → (0 : Int) ≤ s171.2.2 ∧ s171.2.2 < (List.length r4.1.Won : Int)) (
                            ck ((!(((decide ((ix r4.1.Won s171.2.2) < 0)) || (decide ((ix p0 s171.2.2).Count < (ix r4.1.Won s171.2.2)))) || ((decide (0 < (ix r4.1.Won s171.2.2))) && (decide ((ix p0 s171.2.2).Price < r4.1.Price))))) = true → (0 : Int) ≤ s171.2.2 ∧ s171.2.2 < (List.length p0 : Int)) (
                              ck (((!(((decide ((ix r4.1.Won s171.2.2) < 0)) || (decide ((ix p0 s171.2.2).Count < (ix r4.1.Won s171.2.2)))) || ((decide (0 < (ix r4.1.Won s171.2.2))) && (decide ((ix p0 s171.2.2).Price < r4.1.Price))))) && (decide ((ix r4.1.Won s171.2.2) < (ix p0 s171.2.2).Count))) = true → (0 : Int) ≤ s171.2.2 ∧ s171.2.2 < (List.length p0 : Int)) (
                                (if ((((decide ((ix r4.1.Won s171.2.2) < 0)) || (decide ((ix p0 s171.2.2).Count < (ix r4.1.Won s171.2.2)))) || ((decide (0 < (ix r4.1.Won s171.2.2))) && (decide ((ix p0 s171.2.2).Price < r4.1.Price)))) || ((decide ((ix r4.1.Won s171.2.2) < (ix p0 s171.2.2).Count)) && (decide (r4.1.Price < (ix p0 s171.2.2).Price)))) = true then
                                  some (.done (.done (false)))
                                else
                                  ck ((0 : Int) ≤ s171.2.2 ∧ s171.2.2 < (List.length r4.1.Won : Int)) (
                                    ck (I64 (s171.2.1 + (ix r4.1.Won s171.2.2))) (
                                      ck (I64 (s171.2.2 + (1 : Int))) (
                                        some (.next (s178, (s171.2.1 + (ix r4.1.Won s171.2.2)), (s171.2.2 + (1 : Int)))))))))))))))))
            else
              some (.done (.next (s171.1, s171.2.1))))) N ((0 : Int), (0 : Int), (0 : Int)))
        fun (s107 : Int × Int) =>
          callIf (decide (s107.2 = (min s107.1 p1)) = true) (m_recyclinglaw51_awake N) fun r202 => some (((decide (s107.2 = (min s107.1 p1))) && r202))))))
set_option maxRecDepth 20000 in
theorem m_recyclinglaw51_AuctionServes_ok (N : Nat) (w0 : World) (p0 : (List ApiBid)) (p1 : Int) (p2 : Int) (A_p0 : Option Addr) (n_p0 c_p0 : Nat) (hr_p0 : RdE w0 3 encApiBid A_p0 p0) (hz_p0 : SW A_p0 n_p0 c_p0 (List.length p0)) (r : Bool) (hr : m_recyclinglaw51_AuctionServes N p0 p1 p2 = some r) :
    Calls Try.prog 8 [.slice A_p0 n_p0 c_p0, .int .i64 p1, .int .i64 p2].toArray w0 fun x w1 => ∃ u, x = .returned ((fun (r : Bool) (_u : Unit) => .bool r) r u) ∧ Hs w0 ((fun (_r : Bool) (_u : Unit) => []) r u) w1 := by
  refine calls_cm (n := 144) (R := fun r x w1 => ∃ u, x = .returned ((fun (r : Bool) (_u : Unit) => .bool r) r u) ∧ Hs w0 ((fun (_r : Bool) (_u : Unit) => []) r u) w1) Try.func8 rfl rfl (Nat.le_of_ble_eq_true rfl) ?_ r hr
  unfold m_recyclinglaw51_AuctionServes
  refine cm_seq ?_
  refine cm_region ?_
  refine lm_val 6 (by kernel_rfl) (fun w1 c1 => (op_assign (v := .bool false) rfl)) ?_
  refine lm_nil ?_
  refine xm_next ?_
  refine cm_seq ?_
  refine cm_seq ?_
  refine cm_region ?_
  refine lm_val 12 (by kernel_rfl) (fun w1 c1 => (op_move (v := .slice _ _ _) rfl)) ?_
  refine lm_val 13 (by kernel_rfl) (fun w1 c1 => (op_lenN rfl (by kernel_rfl) hz_p0.2.2)) ?_
  refine lm_val 14 (by kernel_rfl) (fun w1 c1 => (op_gtr rfl rfl)) ?_
  refine lm_nil ?_
  refine xm_next ?_
  refine cm_cond (by kernel_rfl) rfl (fun h1 => ?_) (fun h1 => ?_)
  · skip
    refine cm_seq ?_
    refine cm_region ?_
    refine lm_call 15 (V := (fun (r : Bool) (_u : Unit) => .bool r)) (HR := (fun (_r : Bool) (_u : Unit) => [])) (by kernel_rfl) (fun w1 => op_call (by kernel_rfl)) (fun r1 hr1 w1 c1 => m_recyclinglaw51_awake_ok N w1   r1 hr1) ?_
    intro r2 u3
    refine lm_val 6 (by kernel_rfl) (fun w1 c1 => (op_assign (v := .bool _) rfl)) ?_
    refine lm_nil ?_
    refine xm_next ?_
    refine cm_ret ?_
    refine xm_thenR ?_
    exact xm_retT rfl (by kernel_rfl) (show _ = Value.bool _ from rfl) fun w1 c1 => ⟨(), rfl, hsub [] (by kernel_rfl) rfl w1 c1⟩
  · skip
    refine cm_skip ?_
    refine xm_next ?_
    refine cm_seq ?_
    refine cm_region ?_
    refine lm_val 17 (by kernel_rfl) (fun w1 c1 => (op_move (v := .slice _ _ _) rfl)) ?_
    refine lm_val 18 (by kernel_rfl) (fun w1 c1 => (op_move (v := .int .i64 _) rfl)) ?_
    refine lm_val 19 (by kernel_rfl) (fun w1 c1 => (op_move (v := .int .i64 _) rfl)) ?_
    refine lm_call 20 (V := (fun (r : ApiOutcome × Int) (u : (Option Addr) × Nat × Nat) => .tuple #[.agg #[.slice u.1 u.2.1 u.2.2, .int .i64 r.1.Price], .int .i64 r.2])) (HR := (fun (r : ApiOutcome × Int) (u : (Option Addr) × Nat × Nat) => [ownE 3 1 encI u.1 u.2.1 u.2.2 r.1.Won])) (by kernel_rfl) (fun w1 => op_call (by kernel_rfl)) (fun r1 hr1 w1 c1 => m_auction_Run_ok N w1 p0 p1 p2 A_p0 n_p0 c_p0 (hr_p0.old c1) hz_p0 r1 hr1) ?_
    intro r4 u5
    refine lm_val 16 (by kernel_rfl) (fun w1 c1 => (op_move (v := .tuple _) rfl)) ?_
    refine lm_val 21 (by kernel_rfl) (fun w1 c1 => (op_extract (v := .agg _) rfl rfl)) ?_
    refine lm_val 22 (by kernel_rfl) (fun w1 c1 => (op_extract (v := .int .i64 _) rfl rfl)) ?_
    refine lm_alloc 7 [.slice none 0 0, .int .i64 0] (v := .agg #[.slice none 0 0, .int .i64 0]) (by kernel_rfl) (by kernel_rfl) rfl ?_
    intro b6
    refine lm_storeA 0 [.slice _ _ _, .int .i64 _] [_, _] (H' := [blkE _ _ [_, _], _]) (by kernel_rfl) rfl rfl (by kernel_rfl) rfl rfl (by kernel_rfl) rfl rfl ?_
    refine lm_val 8 (by kernel_rfl) (fun w1 c1 => (op_assign (v := .int .i64 _) rfl)) ?_
    refine lm_nil ?_
    refine xm_next ?_
    refine cm_seq ?_
    refine cm_seq ?_
    refine cm_region ?_
    refine lm_val 23 (by kernel_rfl) (fun w1 c1 => (op_move (v := .int .i64 _) rfl)) ?_
    refine lm_val 24 (by kernel_rfl) (fun w1 c1 => (op_neq rfl rfl)) ?_
    refine lm_nil ?_
    refine xm_next ?_
    refine cm_cond (by kernel_rfl) rfl (fun h7 => ?_) (fun h7 => ?_)
    · skip
      refine cm_seq ?_
      refine cm_callIf fun r8 h9 => ?_
      refine cm_cutE [(6, .bool (((decide ((List.length r4.1.Won : Int) = 0)) && (decide (r4.1.Price = 0))) && r8))] ?_ ?_
      · skip
        refine wq_val 25 (by kernel_rfl) (fun w1 c1 => (op_fieldL (m := 0) (k := 0) rfl (by kernel_rfl) rfl)) ?_
        refine wq_val 26 (by kernel_rfl) (fun w1 c1 => (op_load rfl (by kernel_rfl) (c1.cell 0 (u := .slice _ _ _) rfl rfl))) ?_
        refine wq_val 27 (by kernel_rfl) (fun w1 c1 => (op_lenN rfl (by kernel_rfl) (c1.ownZ 1 rfl).2.2)) ?_
        refine wq_dec 28 (by kernel_rfl) (fun w1 c1 => (op_eql rfl rfl)) (fun h10 => ?_) (fun h10 => ?_)
        · skip
          refine wq_val 29 (by kernel_rfl) (fun w1 c1 => (op_move (v := .bool true) rfl)) ?_
          refine wq_val 30 (by kernel_rfl) (fun w1 c1 => (op_fieldL (m := 1) (k := 1) rfl (by kernel_rfl) rfl)) ?_
          refine wq_val 31 (by kernel_rfl) (fun w1 c1 => (op_load rfl (by kernel_rfl) (c1.cell 0 (u := .int .i64 _) rfl rfl))) ?_
          refine wq_dec 32 (by kernel_rfl) (fun w1 c1 => (op_eql rfl rfl)) (fun h11 => ?_) (fun h11 => ?_)
          · skip
            refine wq_val 33 (by kernel_rfl) (fun w1 c1 => (op_pick_t (v := .bool true) rfl rfl)) ?_
            refine wq_val 34 (by kernel_rfl) (fun w1 c1 => (op_move (v := .bool true) rfl)) ?_
            refine wq_call 35 (by kernel_rfl) (fun w1 c1 => op_call (by kernel_rfl)) (fun w1 c1 => (m_recyclinglaw51_awake_ok N w1   r8 (h9 (by rw [decide_eq_true h10, decide_eq_true h11] <;> rfl))).mono (fun _ _ ⟨_, hx, hu⟩ => ⟨hx, c1.call hu⟩)) ?_
            refine wq_val 36 (by kernel_rfl) (fun w1 c1 => (op_pick_t (v := .bool _) rfl rfl)) ?_
            refine wq_val 6 (by kernel_rfl) (fun w1 c1 => (op_assign (v := .bool _) rfl)) ?_
            exact leaf_q (sub_out 13 _ rfl (by kernel_rfl) ⟨(congrArg Value.bool (by rw [decide_eq_true h10, decide_eq_true h11] <;> rfl)), trivial⟩)
          · skip
            refine wq_val 33 (by kernel_rfl) (fun w1 c1 => (op_pick_t (v := .bool false) rfl rfl)) ?_
            refine wq_val 34 (by kernel_rfl) (fun w1 c1 => (op_move (v := .bool false) rfl)) ?_
            refine wq_skip 35 (by kernel_rfl) ?_
            refine wq_val 36 (by kernel_rfl) (fun w1 c1 => (op_pick_f (v := .bool false) rfl rfl)) ?_
            refine wq_val 6 (by kernel_rfl) (fun w1 c1 => (op_assign (v := .bool false) rfl)) ?_
            exact leaf_q (sub_out 13 _ rfl (by kernel_rfl) ⟨(congrArg Value.bool (by rw [decide_eq_true h10, decide_eq_false h11] <;> rfl)), trivial⟩)
        · skip
          refine wq_val 29 (by kernel_rfl) (fun w1 c1 => (op_move (v := .bool false) rfl)) ?_
          refine wq_skip 30 (by kernel_rfl) ?_
          refine wq_skip 31 (by kernel_rfl) ?_
          refine wq_skip 32 (by kernel_rfl) ?_
          refine wq_val 33 (by kernel_rfl) (fun w1 c1 => (op_pick_f (v := .bool false) rfl rfl)) ?_
          refine wq_val 34 (by kernel_rfl) (fun w1 c1 => (op_move (v := .bool false) rfl)) ?_
          refine wq_skip 35 (by kernel_rfl) ?_
          refine wq_val 36 (by kernel_rfl) (fun w1 c1 => (op_pick_f (v := .bool false) rfl rfl)) ?_
          refine wq_val 6 (by kernel_rfl) (fun w1 c1 => (op_assign (v := .bool false) rfl)) ?_
          exact leaf_q (sub_out 13 _ rfl (by kernel_rfl) ⟨(congrArg Value.bool (by rw [decide_eq_false h10] <;> rfl)), trivial⟩)
      refine xm_next ?_
      refine cm_ret ?_
      refine xm_thenR ?_
      exact xm_retT rfl (by kernel_rfl) (show _ = Value.bool _ from rfl) fun w1 c1 => ⟨(), rfl, hsub [] (by kernel_rfl) rfl w1 c1⟩
    · skip
      refine cm_skip ?_
      refine xm_next ?_
      refine cm_seq ?_
      refine cm_seq ?_
      refine cm_cutE [(48, .bool ((decide ((List.length r4.1.Won : Int) ≠ (List.length p0 : Int))) || (decide (r4.1.Price < p2))))] ?_ ?_
      · skip
        refine wq_val 37 (by kernel_rfl) (fun w1 c1 => (op_fieldL (m := 0) (k := 0) rfl (by kernel_rfl) rfl)) ?_
        refine wq_val 38 (by kernel_rfl) (fun w1 c1 => (op_load rfl (by kernel_rfl) (c1.cell 0 (u := .slice _ _ _) rfl rfl))) ?_
        refine wq_val 39 (by kernel_rfl) (fun w1 c1 => (op_lenN rfl (by kernel_rfl) (c1.ownZ 1 rfl).2.2)) ?_
        refine wq_val 40 (by kernel_rfl) (fun w1 c1 => (op_move (v := .slice _ _ _) rfl)) ?_
        refine wq_val 41 (by kernel_rfl) (fun w1 c1 => (op_lenN rfl (by kernel_rfl) hz_p0.2.2)) ?_
        refine wq_dec 42 (by kernel_rfl) (fun w1 c1 => (op_neq rfl rfl)) (fun h12 => ?_) (fun h12 => ?_)
        · skip
          refine wq_val 43 (by kernel_rfl) (fun w1 c1 => (op_move (v := .bool true) rfl)) ?_
          refine wq_skip 44 (by kernel_rfl) ?_
          refine wq_skip 45 (by kernel_rfl) ?_
          refine wq_skip 46 (by kernel_rfl) ?_
          refine wq_skip 47 (by kernel_rfl) ?_
          refine wq_val 48 (by kernel_rfl) (fun w1 c1 => (op_pick_t (v := .bool true) rfl rfl)) ?_
          exact leaf_q (sub_out 12 _ rfl (by kernel_rfl) ⟨(congrArg Value.bool (by rw [decide_eq_true h12] <;> rfl)), trivial⟩)
        · skip
          refine wq_val 43 (by kernel_rfl) (fun w1 c1 => (op_move (v := .bool false) rfl)) ?_
          refine wq_val 44 (by kernel_rfl) (fun w1 c1 => (op_fieldL (m := 1) (k := 1) rfl (by kernel_rfl) rfl)) ?_
          refine wq_val 45 (by kernel_rfl) (fun w1 c1 => (op_load rfl (by kernel_rfl) (c1.cell 0 (u := .int .i64 _) rfl rfl))) ?_
          refine wq_val 46 (by kernel_rfl) (fun w1 c1 => (op_move (v := .int .i64 _) rfl)) ?_
          refine wq_val 47 (by kernel_rfl) (fun w1 c1 => (op_lss rfl rfl)) ?_
          refine wq_val 48 (by kernel_rfl) (fun w1 c1 => (op_pick_f (v := .bool _) rfl rfl)) ?_
          exact leaf_q (sub_out 12 _ rfl (by kernel_rfl) ⟨(congrArg Value.bool (by rw [decide_eq_false h12] <;> rfl)), trivial⟩)
      refine xm_next ?_
      refine cm_condB (by kernel_rfl) rfl (fun h13 => ?_) (fun h13 => ?_)
      · skip
        refine cm_seq ?_
        refine cm_region ?_
        refine lm_val 6 (by kernel_rfl) (fun w1 c1 => (op_assign (v := .bool false) rfl)) ?_
        refine lm_nil ?_
        refine xm_next ?_
        refine cm_ret ?_
        refine xm_thenR ?_
        exact xm_retT rfl (by kernel_rfl) (show _ = Value.bool false from rfl) fun w1 c1 => ⟨(), rfl, hsub [] (by kernel_rfl) rfl w1 c1⟩
      · skip
        refine cm_skip ?_
        refine xm_next ?_
        refine cm_seq ?_
        refine cm_region ?_
        refine lm_val 9 (by kernel_rfl) (fun w1 c1 => (op_assign (v := .int .i64 _) rfl)) ?_
        refine lm_val 10 (by kernel_rfl) (fun w1 c1 => (op_assign (v := .int .i64 _) rfl)) ?_
        refine lm_nil ?_
        refine xm_next ?_
        refine cm_join (σ := Int × Int) (ξ := Unit) (fun s107 u108 => [(1, .int .i64 p1), (9, .int .i64 s107.1), (10, .int .i64 s107.2)]) (fun s107 u108 => []) ?_ ?_
        · skip
          refine cm_seq ?_
          refine cm_region ?_
          refine lm_val 11 (by kernel_rfl) (fun w1 c1 => (op_assign (v := .int .i64 _) rfl)) ?_
          refine lm_nil ?_
          refine xm_next ?_
          refine cm_block ?_
          refine cm_loop (σ := Int × Int × Int) (ξ := Unit) (fun s171 u172 => [(0, .slice A_p0 n_p0 c_p0), (1, .int .i64 p1), (2, .int .i64 p2), (7, .pointer (some ⟨b6, 0, none⟩)), (9, .int .i64 s171.1), (10, .int .i64 s171.2.1), (11, .int .i64 s171.2.2)]) (fun s171 u172 => [blkE b6 29 [.slice u5.1 u5.2.1 u5.2.2, .int .i64 r4.1.Price], ownE 3 1 encI u5.1 u5.2.1 u5.2.2 r4.1.Won]) () ?_ ?_ ?_
          · exact (sub_cons (by kernel_rfl) rfl (sub_cons (by kernel_rfl) rfl (sub_cons (by kernel_rfl) rfl (sub_cons (by kernel_rfl) rfl (sub_cons (by kernel_rfl) rfl (sub_cons (by kernel_rfl) rfl (sub_cons (by kernel_rfl) rfl sub_nil)))))))
          · exact hsub [0, 1] (by kernel_rfl) rfl
          intro s171 u172
          refine cm_seq ?_
          refine cm_seq ?_
          refine cm_region ?_
          refine lm_val 49 (by kernel_rfl) (fun w1 c1 => (op_move (v := .int .i64 _) rfl)) ?_
          refine lm_val 50 (by kernel_rfl) (fun w1 c1 => (op_move (v := .slice _ _ _) rfl)) ?_
          refine lm_val 51 (by kernel_rfl) (fun w1 c1 => (op_lenN rfl (by kernel_rfl) hz_p0.2.2)) ?_
          refine lm_val 52 (by kernel_rfl) (fun w1 c1 => (op_lss rfl rfl)) ?_
          refine lm_nil ?_
          refine xm_next ?_
          refine cm_cond (by kernel_rfl) rfl (fun h173 => ?_) (fun h173 => ?_)
          · skip
            refine cm_skip ?_
            refine xm_next ?_
            refine cm_seq ?_
            refine cm_block ?_
            refine cm_join (σ := Int) (ξ := Unit) (fun s178 u179 => [(0, .slice A_p0 n_p0 c_p0), (1, .int .i64 p1), (2, .int .i64 p2), (7, .pointer (some ⟨b6, 0, none⟩)), (9, .int .i64 s178), (10, .int .i64 s171.2.1), (11, .int .i64 s171.2.2)]) (fun s178 u179 => [blkE b6 29 [.slice u5.1 u5.2.1 u5.2.2, .int .i64 r4.1.Price], ownE 3 1 encI u5.1 u5.2.1 u5.2.2 r4.1.Won]) ?_ ?_
            · skip
              refine cm_seq ?_
              refine cm_region ?_
              refine lm_val 55 (by kernel_rfl) (fun w1 c1 => (op_move (v := .slice _ _ _) rfl)) ?_
              refine lm_val 56 (by kernel_rfl) (fun w1 c1 => (op_move (v := .int .i64 _) rfl)) ?_
              refine lm_ck (fun h180 => ?_)
              refine lm_val 57 (by kernel_rfl) (fun w1 c1 => (op_indexA 3 rfl rfl (by kernel_rfl) ((hr_p0.old c1).addr h180.1 h180.2) hz_p0.2.2 h180.1 h180.2)) ?_
              refine lm_val 58 (by kernel_rfl) (fun w1 c1 => (op_field (m := 1) rfl (by kernel_rfl))) ?_
              refine lm_val 59 (by kernel_rfl) (fun w1 c1 => (op_load (v := .int .i64 ((ix p0 s171.2.2).Price)) rfl (by kernel_rfl) ((hr_p0.old c1).cell (j := 1) h180.1 h180.2 rfl))) ?_
              refine lm_val 60 (by kernel_rfl) (fun w1 c1 => (op_move (v := .int .i64 _) rfl)) ?_
              refine lm_val 61 (by kernel_rfl) (fun w1 c1 => (op_geq rfl rfl)) ?_
              refine lm_nil ?_
              refine xm_next ?_
              refine cm_cond (by kernel_rfl) rfl (fun h181 => ?_) (fun h181 => ?_)
              · skip
                refine cm_region ?_
                refine lm_val 62 (by kernel_rfl) (fun w1 c1 => (op_move (v := .int .i64 _) rfl)) ?_
                refine lm_val 63 (by kernel_rfl) (fun w1 c1 => (op_move (v := .slice _ _ _) rfl)) ?_
                refine lm_val 64 (by kernel_rfl) (fun w1 c1 => (op_move (v := .int .i64 _) rfl)) ?_
                refine lm_ck (fun h182 => ?_)
                refine lm_val 65 (by kernel_rfl) (fun w1 c1 => (op_indexA 3 rfl rfl (by kernel_rfl) ((hr_p0.old c1).addr h182.1 h182.2) hz_p0.2.2 h182.1 h182.2)) ?_
                refine lm_val 66 (by kernel_rfl) (fun w1 c1 => (op_field (m := 2) rfl (by kernel_rfl))) ?_
                refine lm_val 67 (by kernel_rfl) (fun w1 c1 => (op_load (v := .int .i64 ((ix p0 s171.2.2).Count)) rfl (by kernel_rfl) ((hr_p0.old c1).cell (j := 2) h182.1 h182.2 rfl))) ?_
                refine lm_ck (fun h183 => ?_)
                refine lm_val 68 (by kernel_rfl) (fun w1 c1 => (op_add rfl rfl h183)) ?_
                refine lm_val 9 (by kernel_rfl) (fun w1 c1 => (op_assign (v := .int .i64 _) rfl)) ?_
                refine lm_nil ?_
                exact xm_lnext () (sub_cons (by kernel_rfl) rfl (sub_cons (by kernel_rfl) rfl (sub_cons (by kernel_rfl) rfl (sub_cons (by kernel_rfl) rfl (sub_cons (by kernel_rfl) rfl (sub_cons (by kernel_rfl) rfl (sub_cons (by kernel_rfl) rfl sub_nil))))))) (hsub [0, 1] (by kernel_rfl) rfl)
              · skip
                refine cm_skip ?_
                exact xm_lnext () (sub_cons (by kernel_rfl) rfl (sub_cons (by kernel_rfl) rfl (sub_cons (by kernel_rfl) rfl (sub_cons (by kernel_rfl) rfl (sub_cons (by kernel_rfl) rfl (sub_cons (by kernel_rfl) rfl (sub_cons (by kernel_rfl) rfl sub_nil))))))) (hsub [0, 1] (by kernel_rfl) rfl)
            intro s178 u179
            refine cm_seq ?_
            refine cm_seq ?_
            refine cm_ck (fun h184 => ?_)
            refine cm_ck (fun h185 => ?_)
            refine cm_ck (fun h186 => ?_)
            refine cm_ck (fun h187 => ?_)
            refine cm_ck (fun h188 => ?_)
            refine cm_ck (fun h189 => ?_)
            refine cm_ck (fun h190 => ?_)
            refine cm_ck (fun h191 => ?_)
            refine cm_drawn [(128, .bool ((((decide ((ix r4.1.Won s171.2.2) < 0)) || (decide ((ix p0 s171.2.2).Count < (ix r4.1.Won s171.2.2)))) || ((decide (0 < (ix r4.1.Won s171.2.2))) && (decide ((ix p0 s171.2.2).Price < r4.1.Price)))) || ((decide ((ix r4.1.Won s171.2.2) < (ix p0 s171.2.2).Count)) && (decide (r4.1.Price < (ix p0 s171.2.2).Price)))))] (by kernel_rfl) (by kernel_rfl) ?_ ?_
            · skip
              refine wq_val 69 (by kernel_rfl) (fun w1 c1 => (op_fieldL (m := 0) (k := 0) rfl (by kernel_rfl) rfl)) ?_
              refine wq_val 70 (by kernel_rfl) (fun w1 c1 => (op_load rfl (by kernel_rfl) (c1.cell 0 (u := .slice _ _ _) rfl rfl))) ?_
              refine wq_val 71 (by kernel_rfl) (fun w1 c1 => (op_move (v := .int .i64 _) rfl)) ?_
              refine wq_val 72 (by kernel_rfl) (fun w1 c1 => (op_indexA 1 rfl rfl (by kernel_rfl) ((c1.own 1 rfl encI_len).addr h184.1 h184.2) (c1.ownZ 1 rfl).2.2 h184.1 h184.2)) ?_
              refine wq_val 73 (by kernel_rfl) (fun w1 c1 => (op_load (v := .int .i64 (ix r4.1.Won s171.2.2)) rfl (by kernel_rfl) ((c1.own 1 rfl encI_len).cell0 h184.1 h184.2 rfl))) ?_
              refine wq_dec 74 (by kernel_rfl) (fun w1 c1 => (op_lss rfl rfl)) (fun h192 => ?_) (fun h192 => ?_)
              · skip
                refine wq_val 75 (by kernel_rfl) (fun w1 c1 => (op_move (v := .bool true) rfl)) ?_
                refine wq_skip 76 (by kernel_rfl) ?_
                refine wq_skip 77 (by kernel_rfl) ?_
                refine wq_skip 78 (by kernel_rfl) ?_
                refine wq_skip 79 (by kernel_rfl) ?_
                refine wq_skip 80 (by kernel_rfl) ?_
                refine wq_skip 81 (by kernel_rfl) ?_
                refine wq_skip 82 (by kernel_rfl) ?_
                refine wq_skip 83 (by kernel_rfl) ?_
                refine wq_skip 84 (by kernel_rfl) ?_
                refine wq_skip 85 (by kernel_rfl) ?_
                refine wq_skip 86 (by kernel_rfl) ?_
                refine wq_val 87 (by kernel_rfl) (fun w1 c1 => (op_pick_t (v := .bool true) rfl rfl)) ?_
                refine wq_val 88 (by kernel_rfl) (fun w1 c1 => (op_move (v := .bool true) rfl)) ?_
                refine wq_skip 89 (by kernel_rfl) ?_
                refine wq_skip 90 (by kernel_rfl) ?_
                refine wq_skip 91 (by kernel_rfl) ?_
                refine wq_skip 92 (by kernel_rfl) ?_
                refine wq_skip 93 (by kernel_rfl) ?_
                refine wq_skip 94 (by kernel_rfl) ?_
                refine wq_skip 95 (by kernel_rfl) ?_
                refine wq_skip 96 (by kernel_rfl) ?_
                refine wq_skip 97 (by kernel_rfl) ?_
                refine wq_skip 98 (by kernel_rfl) ?_
                refine wq_skip 99 (by kernel_rfl) ?_
                refine wq_skip 100 (by kernel_rfl) ?_
                refine wq_skip 101 (by kernel_rfl) ?_
                refine wq_skip 102 (by kernel_rfl) ?_
                refine wq_skip 103 (by kernel_rfl) ?_
                refine wq_skip 104 (by kernel_rfl) ?_
                refine wq_val 105 (by kernel_rfl) (fun w1 c1 => (op_pick_t (v := .bool true) rfl rfl)) ?_
                refine wq_val 106 (by kernel_rfl) (fun w1 c1 => (op_move (v := .bool true) rfl)) ?_
                refine wq_skip 107 (by kernel_rfl) ?_
                refine wq_skip 108 (by kernel_rfl) ?_
                refine wq_skip 109 (by kernel_rfl) ?_
                refine wq_skip 110 (by kernel_rfl) ?_
                refine wq_skip 111 (by kernel_rfl) ?_
                refine wq_skip 112 (by kernel_rfl) ?_
                refine wq_skip 113 (by kernel_rfl) ?_
                refine wq_skip 114 (by kernel_rfl) ?_
                refine wq_skip 115 (by kernel_rfl) ?_
                refine wq_skip 116 (by kernel_rfl) ?_
                refine wq_skip 117 (by kernel_rfl) ?_
                refine wq_skip 118 (by kernel_rfl) ?_
                refine wq_skip 119 (by kernel_rfl) ?_
                refine wq_skip 120 (by kernel_rfl) ?_
                refine wq_skip 121 (by kernel_rfl) ?_
                refine wq_skip 122 (by kernel_rfl) ?_
                refine wq_skip 123 (by kernel_rfl) ?_
                refine wq_skip 124 (by kernel_rfl) ?_
                refine wq_skip 125 (by kernel_rfl) ?_
                refine wq_skip 126 (by kernel_rfl) ?_
                refine wq_skip 127 (by kernel_rfl) ?_
                refine wq_val 128 (by kernel_rfl) (fun w1 c1 => (op_pick_t (v := .bool true) rfl rfl)) ?_
                exact leaf_q (sub_out 60 _ rfl (by kernel_rfl) ⟨(congrArg Value.bool (by rw [decide_eq_true h192] <;> rfl)), trivial⟩)
              · skip
                refine wq_val 75 (by kernel_rfl) (fun w1 c1 => (op_move (v := .bool false) rfl)) ?_
                refine wq_val 76 (by kernel_rfl) (fun w1 c1 => (op_fieldL (m := 0) (k := 0) rfl (by kernel_rfl) rfl)) ?_
                refine wq_val 77 (by kernel_rfl) (fun w1 c1 => (op_load rfl (by kernel_rfl) (c1.cell 0 (u := .slice _ _ _) rfl rfl))) ?_
                refine wq_val 78 (by kernel_rfl) (fun w1 c1 => (op_move (v := .int .i64 _) rfl)) ?_
                refine wq_val 79 (by kernel_rfl) (fun w1 c1 => (op_indexA 1 rfl rfl (by kernel_rfl) ((c1.own 1 rfl encI_len).addr (h185 (by rw [decide_eq_false h192] <;> rfl)).1 (h185 (by rw [decide_eq_false h192] <;> rfl)).2) (c1.ownZ 1 rfl).2.2 (h185 (by rw [decide_eq_false h192] <;> rfl)).1 (h185 (by rw [decide_eq_false h192] <;> rfl)).2)) ?_
                refine wq_val 80 (by kernel_rfl) (fun w1 c1 => (op_load (v := .int .i64 (ix r4.1.Won s171.2.2)) rfl (by kernel_rfl) ((c1.own 1 rfl encI_len).cell0 (h185 (by rw [decide_eq_false h192] <;> rfl)).1 (h185 (by rw [decide_eq_false h192] <;> rfl)).2 rfl))) ?_
                refine wq_val 81 (by kernel_rfl) (fun w1 c1 => (op_move (v := .slice _ _ _) rfl)) ?_
                refine wq_val 82 (by kernel_rfl) (fun w1 c1 => (op_move (v := .int .i64 _) rfl)) ?_
                refine wq_val 83 (by kernel_rfl) (fun w1 c1 => (op_indexA 3 rfl rfl (by kernel_rfl) ((hr_p0.old c1).addr (h186 (by rw [decide_eq_false h192] <;> rfl)).1 (h186 (by rw [decide_eq_false h192] <;> rfl)).2) hz_p0.2.2 (h186 (by rw [decide_eq_false h192] <;> rfl)).1 (h186 (by rw [decide_eq_false h192] <;> rfl)).2)) ?_
                refine wq_val 84 (by kernel_rfl) (fun w1 c1 => (op_field (m := 2) rfl (by kernel_rfl))) ?_
                refine wq_val 85 (by kernel_rfl) (fun w1 c1 => (op_load (v := .int .i64 ((ix p0 s171.2.2).Count)) rfl (by kernel_rfl) ((hr_p0.old c1).cell (j := 2) (h186 (by rw [decide_eq_false h192] <;> rfl)).1 (h186 (by rw [decide_eq_false h192] <;> rfl)).2 rfl))) ?_
                refine wq_dec 86 (by kernel_rfl) (fun w1 c1 => (op_gtr rfl rfl)) (fun h193 => ?_) (fun h193 => ?_)
                · skip
                  refine wq_val 87 (by kernel_rfl) (fun w1 c1 => (op_pick_f (v := .bool true) rfl rfl)) ?_
                  refine wq_val 88 (by kernel_rfl) (fun w1 c1 => (op_move (v := .bool true) rfl)) ?_
                  refine wq_skip 89 (by kernel_rfl) ?_
                  refine wq_skip 90 (by kernel_rfl) ?_
                  refine wq_skip 91 (by kernel_rfl) ?_
                  refine wq_skip 92 (by kernel_rfl) ?_
                  refine wq_skip 93 (by kernel_rfl) ?_
                  refine wq_skip 94 (by kernel_rfl) ?_
                  refine wq_skip 95 (by kernel_rfl) ?_
                  refine wq_skip 96 (by kernel_rfl) ?_
                  refine wq_skip 97 (by kernel_rfl) ?_
                  refine wq_skip 98 (by kernel_rfl) ?_
                  refine wq_skip 99 (by kernel_rfl) ?_
                  refine wq_skip 100 (by kernel_rfl) ?_
                  refine wq_skip 101 (by kernel_rfl) ?_
                  refine wq_skip 102 (by kernel_rfl) ?_
                  refine wq_skip 103 (by kernel_rfl) ?_
                  refine wq_skip 104 (by kernel_rfl) ?_
                  refine wq_val 105 (by kernel_rfl) (fun w1 c1 => (op_pick_t (v := .bool true) rfl rfl)) ?_
                  refine wq_val 106 (by kernel_rfl) (fun w1 c1 => (op_move (v := .bool true) rfl)) ?_
                  refine wq_skip 107 (by kernel_rfl) ?_
                  refine wq_skip 108 (by kernel_rfl) ?_
                  refine wq_skip 109 (by kernel_rfl) ?_
                  refine wq_skip 110 (by kernel_rfl) ?_
                  refine wq_skip 111 (by kernel_rfl) ?_
                  refine wq_skip 112 (by kernel_rfl) ?_
                  refine wq_skip 113 (by kernel_rfl) ?_
                  refine wq_skip 114 (by kernel_rfl) ?_
                  refine wq_skip 115 (by kernel_rfl) ?_
                  refine wq_skip 116 (by kernel_rfl) ?_
                  refine wq_skip 117 (by kernel_rfl) ?_
                  refine wq_skip 118 (by kernel_rfl) ?_
                  refine wq_skip 119 (by kernel_rfl) ?_
                  refine wq_skip 120 (by kernel_rfl) ?_
                  refine wq_skip 121 (by kernel_rfl) ?_
                  refine wq_skip 122 (by kernel_rfl) ?_
                  refine wq_skip 123 (by kernel_rfl) ?_
                  refine wq_skip 124 (by kernel_rfl) ?_
                  refine wq_skip 125 (by kernel_rfl) ?_
                  refine wq_skip 126 (by kernel_rfl) ?_
                  refine wq_skip 127 (by kernel_rfl) ?_
                  refine wq_val 128 (by kernel_rfl) (fun w1 c1 => (op_pick_t (v := .bool true) rfl rfl)) ?_
                  exact leaf_q (sub_out 60 _ rfl (by kernel_rfl) ⟨(congrArg Value.bool (by rw [decide_eq_false h192, decide_eq_true h193] <;> rfl)), trivial⟩)
                · skip
                  refine wq_val 87 (by kernel_rfl) (fun w1 c1 => (op_pick_f (v := .bool false) rfl rfl)) ?_
                  refine wq_val 88 (by kernel_rfl) (fun w1 c1 => (op_move (v := .bool false) rfl)) ?_
                  refine wq_val 89 (by kernel_rfl) (fun w1 c1 => (op_fieldL (m := 0) (k := 0) rfl (by kernel_rfl) rfl)) ?_
                  refine wq_val 90 (by kernel_rfl) (fun w1 c1 => (op_load rfl (by kernel_rfl) (c1.cell 0 (u := .slice _ _ _) rfl rfl))) ?_
                  refine wq_val 91 (by kernel_rfl) (fun w1 c1 => (op_move (v := .int .i64 _) rfl)) ?_
                  refine wq_val 92 (by kernel_rfl) (fun w1 c1 => (op_indexA 1 rfl rfl (by kernel_rfl) ((c1.own 1 rfl encI_len).addr (h187 (by rw [decide_eq_false h192, decide_eq_false h193] <;> rfl)).1 (h187 (by rw [decide_eq_false h192, decide_eq_false h193] <;> rfl)).2) (c1.ownZ 1 rfl).2.2 (h187 (by rw [decide_eq_false h192, decide_eq_false h193] <;> rfl)).1 (h187 (by rw [decide_eq_false h192, decide_eq_false h193] <;> rfl)).2)) ?_
                  refine wq_val 93 (by kernel_rfl) (fun w1 c1 => (op_load (v := .int .i64 (ix r4.1.Won s171.2.2)) rfl (by kernel_rfl) ((c1.own 1 rfl encI_len).cell0 (h187 (by rw [decide_eq_false h192, decide_eq_false h193] <;> rfl)).1 (h187 (by rw [decide_eq_false h192, decide_eq_false h193] <;> rfl)).2 rfl))) ?_
                  refine wq_dec 94 (by kernel_rfl) (fun w1 c1 => (op_gtr rfl rfl)) (fun h194 => ?_) (fun h194 => ?_)
                  · skip
                    refine wq_val 95 (by kernel_rfl) (fun w1 c1 => (op_move (v := .bool true) rfl)) ?_
                    refine wq_val 96 (by kernel_rfl) (fun w1 c1 => (op_move (v := .slice _ _ _) rfl)) ?_
                    refine wq_val 97 (by kernel_rfl) (fun w1 c1 => (op_move (v := .int .i64 _) rfl)) ?_
                    refine wq_val 98 (by kernel_rfl) (fun w1 c1 => (op_indexA 3 rfl rfl (by kernel_rfl) ((hr_p0.old c1).addr (h188 (by rw [decide_eq_false h192, decide_eq_false h193, decide_eq_true h194] <;> rfl)).1 (h188 (by rw [decide_eq_false h192, decide_eq_false h193, decide_eq_true h194] <;> rfl)).2) hz_p0.2.2 (h188 (by rw [decide_eq_false h192, decide_eq_false h193, decide_eq_true h194] <;> rfl)).1 (h188 (by rw [decide_eq_false h192, decide_eq_false h193, decide_eq_true h194] <;> rfl)).2)) ?_
                    refine wq_val 99 (by kernel_rfl) (fun w1 c1 => (op_field (m := 1) rfl (by kernel_rfl))) ?_
                    refine wq_val 100 (by kernel_rfl) (fun w1 c1 => (op_load (v := .int .i64 ((ix p0 s171.2.2).Price)) rfl (by kernel_rfl) ((hr_p0.old c1).cell (j := 1) (h188 (by rw [decide_eq_false h192, decide_eq_false h193, decide_eq_true h194] <;> rfl)).1 (h188 (by rw [decide_eq_false h192, decide_eq_false h193, decide_eq_true h194] <;> rfl)).2 rfl))) ?_
                    refine wq_val 101 (by kernel_rfl) (fun w1 c1 => (op_fieldL (m := 1) (k := 1) rfl (by kernel_rfl) rfl)) ?_
                    refine wq_val 102 (by kernel_rfl) (fun w1 c1 => (op_load rfl (by kernel_rfl) (c1.cell 0 (u := .int .i64 _) rfl rfl))) ?_
                    refine wq_dec 103 (by kernel_rfl) (fun w1 c1 => (op_lss rfl rfl)) (fun h195 => ?_) (fun h195 => ?_)
                    · skip
                      refine wq_val 104 (by kernel_rfl) (fun w1 c1 => (op_pick_t (v := .bool true) rfl rfl)) ?_
                      refine wq_val 105 (by kernel_rfl) (fun w1 c1 => (op_pick_f (v := .bool true) rfl rfl)) ?_
                      refine wq_val 106 (by kernel_rfl) (fun w1 c1 => (op_move (v := .bool true) rfl)) ?_
                      refine wq_skip 107 (by kernel_rfl) ?_
                      refine wq_skip 108 (by kernel_rfl) ?_
                      refine wq_skip 109 (by kernel_rfl) ?_
                      refine wq_skip 110 (by kernel_rfl) ?_
                      refine wq_skip 111 (by kernel_rfl) ?_
                      refine wq_skip 112 (by kernel_rfl) ?_
                      refine wq_skip 113 (by kernel_rfl) ?_
                      refine wq_skip 114 (by kernel_rfl) ?_
                      refine wq_skip 115 (by kernel_rfl) ?_
                      refine wq_skip 116 (by kernel_rfl) ?_
                      refine wq_skip 117 (by kernel_rfl) ?_
                      refine wq_skip 118 (by kernel_rfl) ?_
                      refine wq_skip 119 (by kernel_rfl) ?_
                      refine wq_skip 120 (by kernel_rfl) ?_
                      refine wq_skip 121 (by kernel_rfl) ?_
                      refine wq_skip 122 (by kernel_rfl) ?_
                      refine wq_skip 123 (by kernel_rfl) ?_
                      refine wq_skip 124 (by kernel_rfl) ?_
                      refine wq_skip 125 (by kernel_rfl) ?_
                      refine wq_skip 126 (by kernel_rfl) ?_
                      refine wq_skip 127 (by kernel_rfl) ?_
                      refine wq_val 128 (by kernel_rfl) (fun w1 c1 => (op_pick_t (v := .bool true) rfl rfl)) ?_
                      exact leaf_q (sub_out 60 _ rfl (by kernel_rfl) ⟨(congrArg Value.bool (by rw [decide_eq_false h192, decide_eq_false h193, decide_eq_true h194, decide_eq_true h195] <;> rfl)), trivial⟩)
                    · skip
                      refine wq_val 104 (by kernel_rfl) (fun w1 c1 => (op_pick_t (v := .bool false) rfl rfl)) ?_
                      refine wq_val 105 (by kernel_rfl) (fun w1 c1 => (op_pick_f (v := .bool false) rfl rfl)) ?_
                      refine wq_val 106 (by kernel_rfl) (fun w1 c1 => (op_move (v := .bool false) rfl)) ?_
                      refine wq_val 107 (by kernel_rfl) (fun w1 c1 => (op_fieldL (m := 0) (k := 0) rfl (by kernel_rfl) rfl)) ?_
                      refine wq_val 108 (by kernel_rfl) (fun w1 c1 => (op_load rfl (by kernel_rfl) (c1.cell 0 (u := .slice _ _ _) rfl rfl))) ?_
                      refine wq_val 109 (by kernel_rfl) (fun w1 c1 => (op_move (v := .int .i64 _) rfl)) ?_
                      refine wq_val 110 (by kernel_rfl) (fun w1 c1 => (op_indexA 1 rfl rfl (by kernel_rfl) ((c1.own 1 rfl encI_len).addr (h189 (by rw [decide_eq_false h192, decide_eq_false h193, decide_eq_true h194, decide_eq_false h195] <;> rfl)).1 (h189 (by rw [decide_eq_false h192, decide_eq_false h193, decide_eq_true h194, decide_eq_false h195] <;> rfl)).2) (c1.ownZ 1 rfl).2.2 (h189 (by rw [decide_eq_false h192, decide_eq_false h193, decide_eq_true h194, decide_eq_false h195] <;> rfl)).1 (h189 (by rw [decide_eq_false h192, decide_eq_false h193, decide_eq_true h194, decide_eq_false h195] <;> rfl)).2)) ?_
                      refine wq_val 111 (by kernel_rfl) (fun w1 c1 => (op_load (v := .int .i64 (ix r4.1.Won s171.2.2)) rfl (by kernel_rfl) ((c1.own 1 rfl encI_len).cell0 (h189 (by rw [decide_eq_false h192, decide_eq_false h193, decide_eq_true h194, decide_eq_false h195] <;> rfl)).1 (h189 (by rw [decide_eq_false h192, decide_eq_false h193, decide_eq_true h194, decide_eq_false h195] <;> rfl)).2 rfl))) ?_
                      refine wq_val 112 (by kernel_rfl) (fun w1 c1 => (op_move (v := .slice _ _ _) rfl)) ?_
                      refine wq_val 113 (by kernel_rfl) (fun w1 c1 => (op_move (v := .int .i64 _) rfl)) ?_
                      refine wq_val 114 (by kernel_rfl) (fun w1 c1 => (op_indexA 3 rfl rfl (by kernel_rfl) ((hr_p0.old c1).addr (h190 (by rw [decide_eq_false h192, decide_eq_false h193, decide_eq_true h194, decide_eq_false h195] <;> rfl)).1 (h190 (by rw [decide_eq_false h192, decide_eq_false h193, decide_eq_true h194, decide_eq_false h195] <;> rfl)).2) hz_p0.2.2 (h190 (by rw [decide_eq_false h192, decide_eq_false h193, decide_eq_true h194, decide_eq_false h195] <;> rfl)).1 (h190 (by rw [decide_eq_false h192, decide_eq_false h193, decide_eq_true h194, decide_eq_false h195] <;> rfl)).2)) ?_
                      refine wq_val 115 (by kernel_rfl) (fun w1 c1 => (op_field (m := 2) rfl (by kernel_rfl))) ?_
                      refine wq_val 116 (by kernel_rfl) (fun w1 c1 => (op_load (v := .int .i64 ((ix p0 s171.2.2).Count)) rfl (by kernel_rfl) ((hr_p0.old c1).cell (j := 2) (h190 (by rw [decide_eq_false h192, decide_eq_false h193, decide_eq_true h194, decide_eq_false h195] <;> rfl)).1 (h190 (by rw [decide_eq_false h192, decide_eq_false h193, decide_eq_true h194, decide_eq_false h195] <;> rfl)).2 rfl))) ?_
                      refine wq_dec 117 (by kernel_rfl) (fun w1 c1 => (op_lss rfl rfl)) (fun h196 => ?_) (fun h196 => ?_)
                      · skip
                        refine wq_val 118 (by kernel_rfl) (fun w1 c1 => (op_move (v := .bool true) rfl)) ?_
                        refine wq_val 119 (by kernel_rfl) (fun w1 c1 => (op_move (v := .slice _ _ _) rfl)) ?_
                        refine wq_val 120 (by kernel_rfl) (fun w1 c1 => (op_move (v := .int .i64 _) rfl)) ?_
                        refine wq_val 121 (by kernel_rfl) (fun w1 c1 => (op_indexA 3 rfl rfl (by kernel_rfl) ((hr_p0.old c1).addr (h191 (by rw [decide_eq_false h192, decide_eq_false h193, decide_eq_true h194, decide_eq_false h195, decide_eq_true h196] <;> rfl)).1 (h191 (by rw [decide_eq_false h192, decide_eq_false h193, decide_eq_true h194, decide_eq_false h195, decide_eq_true h196] <;> rfl)).2) hz_p0.2.2 (h191 (by rw [decide_eq_false h192, decide_eq_false h193, decide_eq_true h194, decide_eq_false h195, decide_eq_true h196] <;> rfl)).1 (h191 (by rw [decide_eq_false h192, decide_eq_false h193, decide_eq_true h194, decide_eq_false h195, decide_eq_true h196] <;> rfl)).2)) ?_
                        refine wq_val 122 (by kernel_rfl) (fun w1 c1 => (op_field (m := 1) rfl (by kernel_rfl))) ?_
                        refine wq_val 123 (by kernel_rfl) (fun w1 c1 => (op_load (v := .int .i64 ((ix p0 s171.2.2).Price)) rfl (by kernel_rfl) ((hr_p0.old c1).cell (j := 1) (h191 (by rw [decide_eq_false h192, decide_eq_false h193, decide_eq_true h194, decide_eq_false h195, decide_eq_true h196] <;> rfl)).1 (h191 (by rw [decide_eq_false h192, decide_eq_false h193, decide_eq_true h194, decide_eq_false h195, decide_eq_true h196] <;> rfl)).2 rfl))) ?_
                        refine wq_val 124 (by kernel_rfl) (fun w1 c1 => (op_fieldL (m := 1) (k := 1) rfl (by kernel_rfl) rfl)) ?_
                        refine wq_val 125 (by kernel_rfl) (fun w1 c1 => (op_load rfl (by kernel_rfl) (c1.cell 0 (u := .int .i64 _) rfl rfl))) ?_
                        refine wq_val 126 (by kernel_rfl) (fun w1 c1 => (op_gtr rfl rfl)) ?_
                        refine wq_val 127 (by kernel_rfl) (fun w1 c1 => (op_pick_t (v := .bool _) rfl rfl)) ?_
                        refine wq_val 128 (by kernel_rfl) (fun w1 c1 => (op_pick_f (v := .bool _) rfl rfl)) ?_
                        exact leaf_q (sub_out 60 _ rfl (by kernel_rfl) ⟨(congrArg Value.bool (by rw [decide_eq_false h192, decide_eq_false h193, decide_eq_true h194, decide_eq_false h195, decide_eq_true h196] <;> rfl)), trivial⟩)
                      · skip
                        refine wq_val 118 (by kernel_rfl) (fun w1 c1 => (op_move (v := .bool false) rfl)) ?_
                        refine wq_skip 119 (by kernel_rfl) ?_
                        refine wq_skip 120 (by kernel_rfl) ?_
                        refine wq_skip 121 (by kernel_rfl) ?_
                        refine wq_skip 122 (by kernel_rfl) ?_
                        refine wq_skip 123 (by kernel_rfl) ?_
                        refine wq_skip 124 (by kernel_rfl) ?_
                        refine wq_skip 125 (by kernel_rfl) ?_
                        refine wq_skip 126 (by kernel_rfl) ?_
                        refine wq_val 127 (by kernel_rfl) (fun w1 c1 => (op_pick_f (v := .bool false) rfl rfl)) ?_
                        refine wq_val 128 (by kernel_rfl) (fun w1 c1 => (op_pick_f (v := .bool false) rfl rfl)) ?_
                        exact leaf_q (sub_out 60 _ rfl (by kernel_rfl) ⟨(congrArg Value.bool (by rw [decide_eq_false h192, decide_eq_false h193, decide_eq_true h194, decide_eq_false h195, decide_eq_false h196] <;> rfl)), trivial⟩)
                  · skip
                    refine wq_val 95 (by kernel_rfl) (fun w1 c1 => (op_move (v := .bool false) rfl)) ?_
                    refine wq_skip 96 (by kernel_rfl) ?_
                    refine wq_skip 97 (by kernel_rfl) ?_
                    refine wq_skip 98 (by kernel_rfl) ?_
                    refine wq_skip 99 (by kernel_rfl) ?_
                    refine wq_skip 100 (by kernel_rfl) ?_
                    refine wq_skip 101 (by kernel_rfl) ?_
                    refine wq_skip 102 (by kernel_rfl) ?_
                    refine wq_skip 103 (by kernel_rfl) ?_
                    refine wq_val 104 (by kernel_rfl) (fun w1 c1 => (op_pick_f (v := .bool false) rfl rfl)) ?_
                    refine wq_val 105 (by kernel_rfl) (fun w1 c1 => (op_pick_f (v := .bool false) rfl rfl)) ?_
                    refine wq_val 106 (by kernel_rfl) (fun w1 c1 => (op_move (v := .bool false) rfl)) ?_
                    refine wq_val 107 (by kernel_rfl) (fun w1 c1 => (op_fieldL (m := 0) (k := 0) rfl (by kernel_rfl) rfl)) ?_
                    refine wq_val 108 (by kernel_rfl) (fun w1 c1 => (op_load rfl (by kernel_rfl) (c1.cell 0 (u := .slice _ _ _) rfl rfl))) ?_
                    refine wq_val 109 (by kernel_rfl) (fun w1 c1 => (op_move (v := .int .i64 _) rfl)) ?_
                    refine wq_val 110 (by kernel_rfl) (fun w1 c1 => (op_indexA 1 rfl rfl (by kernel_rfl) ((c1.own 1 rfl encI_len).addr (h189 (by rw [decide_eq_false h192, decide_eq_false h193, decide_eq_false h194] <;> rfl)).1 (h189 (by rw [decide_eq_false h192, decide_eq_false h193, decide_eq_false h194] <;> rfl)).2) (c1.ownZ 1 rfl).2.2 (h189 (by rw [decide_eq_false h192, decide_eq_false h193, decide_eq_false h194] <;> rfl)).1 (h189 (by rw [decide_eq_false h192, decide_eq_false h193, decide_eq_false h194] <;> rfl)).2)) ?_
                    refine wq_val 111 (by kernel_rfl) (fun w1 c1 => (op_load (v := .int .i64 (ix r4.1.Won s171.2.2)) rfl (by kernel_rfl) ((c1.own 1 rfl encI_len).cell0 (h189 (by rw [decide_eq_false h192, decide_eq_false h193, decide_eq_false h194] <;> rfl)).1 (h189 (by rw [decide_eq_false h192, decide_eq_false h193, decide_eq_false h194] <;> rfl)).2 rfl))) ?_
                    refine wq_val 112 (by kernel_rfl) (fun w1 c1 => (op_move (v := .slice _ _ _) rfl)) ?_
                    refine wq_val 113 (by kernel_rfl) (fun w1 c1 => (op_move (v := .int .i64 _) rfl)) ?_
                    refine wq_val 114 (by kernel_rfl) (fun w1 c1 => (op_indexA 3 rfl rfl (by kernel_rfl) ((hr_p0.old c1).addr (h190 (by rw [decide_eq_false h192, decide_eq_false h193, decide_eq_false h194] <;> rfl)).1 (h190 (by rw [decide_eq_false h192, decide_eq_false h193, decide_eq_false h194] <;> rfl)).2) hz_p0.2.2 (h190 (by rw [decide_eq_false h192, decide_eq_false h193, decide_eq_false h194] <;> rfl)).1 (h190 (by rw [decide_eq_false h192, decide_eq_false h193, decide_eq_false h194] <;> rfl)).2)) ?_
                    refine wq_val 115 (by kernel_rfl) (fun w1 c1 => (op_field (m := 2) rfl (by kernel_rfl))) ?_
                    refine wq_val 116 (by kernel_rfl) (fun w1 c1 => (op_load (v := .int .i64 ((ix p0 s171.2.2).Count)) rfl (by kernel_rfl) ((hr_p0.old c1).cell (j := 2) (h190 (by rw [decide_eq_false h192, decide_eq_false h193, decide_eq_false h194] <;> rfl)).1 (h190 (by rw [decide_eq_false h192, decide_eq_false h193, decide_eq_false h194] <;> rfl)).2 rfl))) ?_
                    refine wq_dec 117 (by kernel_rfl) (fun w1 c1 => (op_lss rfl rfl)) (fun h197 => ?_) (fun h197 => ?_)
                    · skip
                      refine wq_val 118 (by kernel_rfl) (fun w1 c1 => (op_move (v := .bool true) rfl)) ?_
                      refine wq_val 119 (by kernel_rfl) (fun w1 c1 => (op_move (v := .slice _ _ _) rfl)) ?_
                      refine wq_val 120 (by kernel_rfl) (fun w1 c1 => (op_move (v := .int .i64 _) rfl)) ?_
                      refine wq_val 121 (by kernel_rfl) (fun w1 c1 => (op_indexA 3 rfl rfl (by kernel_rfl) ((hr_p0.old c1).addr (h191 (by rw [decide_eq_false h192, decide_eq_false h193, decide_eq_false h194, decide_eq_true h197] <;> rfl)).1 (h191 (by rw [decide_eq_false h192, decide_eq_false h193, decide_eq_false h194, decide_eq_true h197] <;> rfl)).2) hz_p0.2.2 (h191 (by rw [decide_eq_false h192, decide_eq_false h193, decide_eq_false h194, decide_eq_true h197] <;> rfl)).1 (h191 (by rw [decide_eq_false h192, decide_eq_false h193, decide_eq_false h194, decide_eq_true h197] <;> rfl)).2)) ?_
                      refine wq_val 122 (by kernel_rfl) (fun w1 c1 => (op_field (m := 1) rfl (by kernel_rfl))) ?_
                      refine wq_val 123 (by kernel_rfl) (fun w1 c1 => (op_load (v := .int .i64 ((ix p0 s171.2.2).Price)) rfl (by kernel_rfl) ((hr_p0.old c1).cell (j := 1) (h191 (by rw [decide_eq_false h192, decide_eq_false h193, decide_eq_false h194, decide_eq_true h197] <;> rfl)).1 (h191 (by rw [decide_eq_false h192, decide_eq_false h193, decide_eq_false h194, decide_eq_true h197] <;> rfl)).2 rfl))) ?_
                      refine wq_val 124 (by kernel_rfl) (fun w1 c1 => (op_fieldL (m := 1) (k := 1) rfl (by kernel_rfl) rfl)) ?_
                      refine wq_val 125 (by kernel_rfl) (fun w1 c1 => (op_load rfl (by kernel_rfl) (c1.cell 0 (u := .int .i64 _) rfl rfl))) ?_
                      refine wq_val 126 (by kernel_rfl) (fun w1 c1 => (op_gtr rfl rfl)) ?_
                      refine wq_val 127 (by kernel_rfl) (fun w1 c1 => (op_pick_t (v := .bool _) rfl rfl)) ?_
                      refine wq_val 128 (by kernel_rfl) (fun w1 c1 => (op_pick_f (v := .bool _) rfl rfl)) ?_
                      exact leaf_q (sub_out 60 _ rfl (by kernel_rfl) ⟨(congrArg Value.bool (by rw [decide_eq_false h192, decide_eq_false h193, decide_eq_false h194, decide_eq_true h197] <;> rfl)), trivial⟩)
                    · skip
                      refine wq_val 118 (by kernel_rfl) (fun w1 c1 => (op_move (v := .bool false) rfl)) ?_
                      refine wq_skip 119 (by kernel_rfl) ?_
                      refine wq_skip 120 (by kernel_rfl) ?_
                      refine wq_skip 121 (by kernel_rfl) ?_
                      refine wq_skip 122 (by kernel_rfl) ?_
                      refine wq_skip 123 (by kernel_rfl) ?_
                      refine wq_skip 124 (by kernel_rfl) ?_
                      refine wq_skip 125 (by kernel_rfl) ?_
                      refine wq_skip 126 (by kernel_rfl) ?_
                      refine wq_val 127 (by kernel_rfl) (fun w1 c1 => (op_pick_f (v := .bool false) rfl rfl)) ?_
                      refine wq_val 128 (by kernel_rfl) (fun w1 c1 => (op_pick_f (v := .bool false) rfl rfl)) ?_
                      exact leaf_q (sub_out 60 _ rfl (by kernel_rfl) ⟨(congrArg Value.bool (by rw [decide_eq_false h192, decide_eq_false h193, decide_eq_false h194, decide_eq_false h197] <;> rfl)), trivial⟩)
            refine xm_next ?_
            refine cm_condB (by kernel_rfl) rfl (fun h198 => ?_) (fun h198 => ?_)
            · skip
              refine cm_seq ?_
              refine cm_region ?_
              refine lm_val 6 (by kernel_rfl) (fun w1 c1 => (op_assign (v := .bool false) rfl)) ?_
              refine lm_nil ?_
              refine xm_next ?_
              refine cm_ret ?_
              refine xm_thenR ?_
              refine xm_inR ?_
              refine xm_thenR ?_
              refine xm_lret ?_
              refine xm_inR ?_
              refine xm_lret ?_
              exact xm_retT rfl (by kernel_rfl) (show _ = Value.bool false from rfl) fun w1 c1 => ⟨(), rfl, hsub [] (by kernel_rfl) rfl w1 c1⟩
            · skip
              refine cm_skip ?_
              refine xm_next ?_
              refine cm_region ?_
              refine lm_val 129 (by kernel_rfl) (fun w1 c1 => (op_move (v := .int .i64 _) rfl)) ?_
              refine lm_val 130 (by kernel_rfl) (fun w1 c1 => (op_fieldL (m := 0) (k := 0) rfl (by kernel_rfl) rfl)) ?_
              refine lm_val 131 (by kernel_rfl) (fun w1 c1 => (op_load rfl (by kernel_rfl) (c1.cell 0 (u := .slice _ _ _) rfl rfl))) ?_
              refine lm_val 132 (by kernel_rfl) (fun w1 c1 => (op_move (v := .int .i64 _) rfl)) ?_
              refine lm_ck (fun h199 => ?_)
              refine lm_val 133 (by kernel_rfl) (fun w1 c1 => (op_indexA 1 rfl rfl (by kernel_rfl) ((c1.own 1 rfl encI_len).addr h199.1 h199.2) (c1.ownZ 1 rfl).2.2 h199.1 h199.2)) ?_
              refine lm_val 134 (by kernel_rfl) (fun w1 c1 => (op_load (v := .int .i64 (ix r4.1.Won s171.2.2)) rfl (by kernel_rfl) ((c1.own 1 rfl encI_len).cell0 h199.1 h199.2 rfl))) ?_
              refine lm_ck (fun h200 => ?_)
              refine lm_val 135 (by kernel_rfl) (fun w1 c1 => (op_add rfl rfl h200)) ?_
              refine lm_val 10 (by kernel_rfl) (fun w1 c1 => (op_assign (v := .int .i64 _) rfl)) ?_
              refine lm_nil ?_
              refine xm_inN ?_
              refine xm_next ?_
              refine cm_region ?_
              refine lm_val 53 (by kernel_rfl) (fun w1 c1 => (op_move (v := .int .i64 _) rfl)) ?_
              refine lm_ck (fun h201 => ?_)
              refine lm_val 54 (by kernel_rfl) (fun w1 c1 => (op_add rfl rfl h201)) ?_
              refine lm_val 11 (by kernel_rfl) (fun w1 c1 => (op_assign (v := .int .i64 _) rfl)) ?_
              refine lm_nil ?_
              exact xm_lnext () (sub_cons (by kernel_rfl) rfl (sub_cons (by kernel_rfl) rfl (sub_cons (by kernel_rfl) rfl (sub_cons (by kernel_rfl) rfl (sub_cons (by kernel_rfl) rfl (sub_cons (by kernel_rfl) rfl (sub_cons (by kernel_rfl) rfl sub_nil))))))) (hsub [0, 1] (by kernel_rfl) rfl)
          · skip
            refine cm_exit ?_
            refine xm_thenE ?_
            refine xm_lexit ?_
            refine xm_here ?_
            exact xm_lnext () (sub_cons (by kernel_rfl) rfl (sub_cons (by kernel_rfl) rfl (sub_cons (by kernel_rfl) rfl sub_nil))) (hsub [] (by kernel_rfl) rfl)
        intro s107 u108
        refine cm_seq ?_
        refine cm_callIf fun r202 h203 => ?_
        refine cm_cutE [(6, .bool ((decide (s107.2 = (min s107.1 p1))) && r202))] ?_ ?_
        · skip
          refine wq_val 136 (by kernel_rfl) (fun w1 c1 => (op_move (v := .int .i64 _) rfl)) ?_
          refine wq_val 137 (by kernel_rfl) (fun w1 c1 => (op_move (v := .int .i64 _) rfl)) ?_
          refine wq_val 138 (by kernel_rfl) (fun w1 c1 => (op_move (v := .int .i64 _) rfl)) ?_
          refine wq_val 139 (by kernel_rfl) (fun w1 c1 => (op_min rfl rfl)) ?_
          refine wq_dec 140 (by kernel_rfl) (fun w1 c1 => (op_eql rfl rfl)) (fun h204 => ?_) (fun h204 => ?_)
          · skip
            refine wq_val 141 (by kernel_rfl) (fun w1 c1 => (op_move (v := .bool true) rfl)) ?_
            refine wq_call 142 (by kernel_rfl) (fun w1 c1 => op_call (by kernel_rfl)) (fun w1 c1 => (m_recyclinglaw51_awake_ok N w1   r202 (h203 (by rw [decide_eq_true h204] <;> rfl))).mono (fun _ _ ⟨_, hx, hu⟩ => ⟨hx, c1.call hu⟩)) ?_
            refine wq_val 143 (by kernel_rfl) (fun w1 c1 => (op_pick_t (v := .bool _) rfl rfl)) ?_
            refine wq_val 6 (by kernel_rfl) (fun w1 c1 => (op_assign (v := .bool _) rfl)) ?_
            exact leaf_q (sub_out 9 _ rfl (by kernel_rfl) ⟨(congrArg Value.bool (by rw [decide_eq_true h204] <;> rfl)), trivial⟩)
          · skip
            refine wq_val 141 (by kernel_rfl) (fun w1 c1 => (op_move (v := .bool false) rfl)) ?_
            refine wq_skip 142 (by kernel_rfl) ?_
            refine wq_val 143 (by kernel_rfl) (fun w1 c1 => (op_pick_f (v := .bool false) rfl rfl)) ?_
            refine wq_val 6 (by kernel_rfl) (fun w1 c1 => (op_assign (v := .bool false) rfl)) ?_
            exact leaf_q (sub_out 9 _ rfl (by kernel_rfl) ⟨(congrArg Value.bool (by rw [decide_eq_false h204] <;> rfl)), trivial⟩)
        refine xm_next ?_
        refine cm_ret ?_
        exact xm_retT rfl (by kernel_rfl) (show _ = Value.bool _ from rfl) fun w1 c1 => ⟨(), rfl, hsub [] (by kernel_rfl) rfl w1 c1⟩
end Go.Proofs.Ytimmifkdocjljaa
