/- Models of functions, and that the code follows them. Written by deco.py. -/
import Derived.Test.YtkepegnnkmmefaaEmpAwake
namespace Go.Proofs.Ytkepegnnkmmefaa
open Go.RowKit

/-- recyclinglaw18.EmptyingOrder -/
def m_recyclinglaw18_EmptyingOrder (N : Nat) (p0 : (List ApiEmptying)) (p1 : Int) (p2 : Int) : Option (Bool) :=
  Option.bind (m_recyclinglaw18_great N p0) fun r1 => (if (r1 || (decide ((List.length p0 : Int) = 0))) = true then
    Option.bind (m_recyclinglaw18_awake N) fun r5 => some (r5)
  else
    ck (I64 p2) (
      ck (0 < (List.length p0 : Int) ∧ I64 p2) (
        (andThen
          (loopM (fun (s91 : (List ApiEmptying) × Int) =>
            (if s91.2 < (List.length p0 : Int) then
              ck (I64 ((Int.tmod p2 (List.length p0 : Int)) + (List.length p0 : Int))) (
                ck (I64 (((Int.tmod p2 (List.length p0 : Int)) + (List.length p0 : Int)) - s91.2)) (
                  ck (0 < (List.length p0 : Int) ∧ I64 (((Int.tmod p2 (List.length p0 : Int)) + (List.length p0 : Int)) - s91.2)) (
                    ck ((0 : Int) ≤ (Int.tmod (((Int.tmod p2 (List.length p0 : Int)) + (List.length p0 : Int)) - s91.2) (List.length p0 : Int)) ∧ (Int.tmod (((Int.tmod p2 (List.length p0 : Int)) + (List.length p0 : Int)) - s91.2) (List.length p0 : Int)) < (List.length p0 : Int)) (
                      ck ((List.length s91.1 + List.length ([(ix p0 (Int.tmod (((Int.tmod p2 (List.length p0 : Int)) + (List.length p0 : Int)) - s91.2) (List.length p0 : Int)))])) * 56 ≤ 140737488355328) (
                        ck (I64 (s91.2 + (1 : Int))) (
                          some (.next ((s91.1 ++ ([(ix p0 (Int.tmod (((Int.tmod p2 (List.length p0 : Int)) + (List.length p0 : Int)) - s91.2) (List.length p0 : Int)))])), (s91.2 + (1 : Int))))))))))
            else
              some (.done (.next s91.1)))) N (([] : List ApiEmptying), (0 : Int)))
        fun (s57 : (List ApiEmptying)) =>
          Option.bind (m_emptying_Counts N p0 p1) fun r107 => Option.bind (m_emptying_Counts N s57 p1) fun r109 => (if ((decide (r107.2 ≠ 0)) || (decide (r109.2 ≠ 0))) = true then
            callIf (((decide (r107.2 = 0)) == (decide (r109.2 = 0))) = true) (m_recyclinglaw18_awake N) fun r113 => some ((((decide (r107.2 = 0)) == (decide (r109.2 = 0))) && r113))
          else
            (if (List.length r107.1 : Int) ≠ (List.length r109.1 : Int) then
              some (false)
            else
              (andThen
                (loopM (fun (s204 : Int) =>
                  (if s204 < (List.length r107.1 : Int) then
                    ck ((0 : Int) ≤ s204 ∧ s204 < (List.length r107.1 : Int)) (
                      ck ((!(decide ((ix r107.1 s204) < 0))) = true → (0 : Int) ≤ s204 ∧ s204 < (List.length r107.1 : Int)) (
                        ck ((!((decide ((ix r107.1 s204) < 0)) || (decide ((List.length p0 : Int) ≤ (ix r107.1 s204))))) = true → (0 : Int) ≤ s204 ∧ s204 < (List.length r109.1 : Int)) (
                          ck ((!(((decide ((ix r107.1 s204) < 0)) || (decide ((List.length p0 : Int) ≤ (ix r107.1 s204)))) || (decide ((ix r109.1 s204) < 0)))) = true → (0 : Int) ≤ s204 ∧ s204 < (List.length r109.1 : Int)) (
                            ck ((!((((decide ((ix r107.1 s204) < 0)) || (decide ((List.length p0 : Int) ≤ (ix r107.1 s204)))) || (decide ((ix r109.1 s204) < 0))) || (decide ((List.length p0 : Int) ≤ (ix r109.1 s204))))) = true → (0 : Int) ≤ s204 ∧ s204 < (List.length r107.1 : Int)) (
                              ck ((!((((decide ((ix r107.1 s204) < 0)) || (decide ((List.length p0 : Int) ≤ (ix r107.1 s204)))) || (decide ((ix r109.1 s204) < 0))) || (decide ((List.length p0 : Int) ≤ (ix r109.1 s204))))) = true → (0 : Int) ≤ (ix r107.1 s204) ∧ (ix r107.1 s204) < (List.length p0 : Int)) (
                                ck ((!((((decide ((ix r107.1 s204) < 0)) || (decide ((List.length p0 : Int) ≤ (ix r107.1 s204)))) || (decide ((ix r109.1 s204) < 0))) || (decide ((List.length p0 : Int) ≤ (ix r109.1 s204))))) = true → (0 : Int) ≤ s204 ∧ s204 < (List.length r109.1 : Int)) (
                                  ck ((!((((decide ((ix r107.1 s204) < 0)) || (decide ((List.length p0 : Int) ≤ (ix r107.1 s204)))) || (decide ((ix r109.1 s204) < 0))) || (decide ((List.length p0 : Int) ≤ (ix r109.1 s204))))) = true → (0 : Int) ≤ (ix r109.1 s204) ∧ (ix r109.1 s204) < (List.length s57 : Int)) (
                                    (if (((((decide ((ix r107.1 s204) < 0)) || (decide ((List.length p0 : Int) ≤ (ix r107.1 s204)))) || (decide ((ix r109.1 s204) < 0))) || (decide ((List.length p0 : Int) ≤ (ix r109.1 s204)))) || (decide ((ix p0 (ix r107.1 s204)).ID ≠ (ix s57 (ix r109.1 s204)).ID))) = true then
                                      some (.done (.done (false)))
                                    else
                                      ck (I64 (s204 + (1 : Int))) (
                                        some (.next (s204 + (1 : Int)))))))))))))
                  else
                    some (.done (.next ())))) N (0 : Int))
              fun (_s168 : Unit) =>
                Option.bind (m_recyclinglaw18_awake N) fun r221 => some (r221))))))))
set_option maxRecDepth 20000 in
theorem m_recyclinglaw18_EmptyingOrder_ok (N : Nat) (w0 : World) (p0 : (List ApiEmptying)) (p1 : Int) (p2 : Int) (A_p0 : Option Addr) (n_p0 c_p0 : Nat) (hr_p0 : RdE w0 7 encApiEmptying A_p0 p0) (hz_p0 : SW A_p0 n_p0 c_p0 (List.length p0)) (r : Bool) (hr : m_recyclinglaw18_EmptyingOrder N p0 p1 p2 = some r) :
    Calls Try.prog 8 [.slice A_p0 n_p0 c_p0, .int .i64 p1, .int .u8 p2].toArray w0 fun x w1 => ∃ u, x = .returned ((fun (r : Bool) (_u : Unit) => .bool r) r u) ∧ Hs w0 ((fun (_r : Bool) (_u : Unit) => []) r u) w1 := by
  refine calls_cm (n := 136) (R := fun r x w1 => ∃ u, x = .returned ((fun (r : Bool) (_u : Unit) => .bool r) r u) ∧ Hs w0 ((fun (_r : Bool) (_u : Unit) => []) r u) w1) Try.func8 rfl rfl (Nat.le_of_ble_eq_true rfl) ?_ r hr
  unfold m_recyclinglaw18_EmptyingOrder
  refine cm_seq ?_
  refine cm_region ?_
  refine lm_val 6 (by kernel_rfl) (fun w1 c1 => (op_assign (v := .bool false) rfl)) ?_
  refine lm_nil ?_
  refine xm_next ?_
  refine cm_seq ?_
  refine cm_seq ?_
  refine cm_bind fun r1 h2 => ?_
  refine cm_cutE [(21, .bool (r1 || (decide ((List.length p0 : Int) = 0))))] ?_ ?_
  · skip
    refine wq_val 15 (by kernel_rfl) (fun w1 c1 => (op_move (v := .slice _ _ _) rfl)) ?_
    refine wq_callb 16 (by kernel_rfl) (fun w1 c1 => op_call (by kernel_rfl)) (fun w1 c1 => (m_recyclinglaw18_great_ok N w1 p0 A_p0 n_p0 c_p0 (hr_p0.old c1) hz_p0 r1 h2).mono (fun _ _ ⟨_, hx, hu⟩ => ⟨hx, c1.call hu⟩)) (fun h3 => ?_) (fun h3 => ?_)
    · skip
      refine wq_val 17 (by kernel_rfl) (fun w1 c1 => (op_move (v := .bool true) rfl)) ?_
      refine wq_skip 18 (by kernel_rfl) ?_
      refine wq_skip 19 (by kernel_rfl) ?_
      refine wq_skip 20 (by kernel_rfl) ?_
      refine wq_val 21 (by kernel_rfl) (fun w1 c1 => (op_pick_t (v := .bool true) rfl rfl)) ?_
      exact leaf_q (sub_out 7 _ rfl (by kernel_rfl) ⟨(congrArg Value.bool (by rw [h3] <;> rfl)), trivial⟩)
    · skip
      refine wq_val 17 (by kernel_rfl) (fun w1 c1 => (op_move (v := .bool false) rfl)) ?_
      refine wq_val 18 (by kernel_rfl) (fun w1 c1 => (op_move (v := .slice _ _ _) rfl)) ?_
      refine wq_val 19 (by kernel_rfl) (fun w1 c1 => (op_lenN rfl (by kernel_rfl) hz_p0.2.2)) ?_
      refine wq_val 20 (by kernel_rfl) (fun w1 c1 => (op_eql rfl rfl)) ?_
      refine wq_val 21 (by kernel_rfl) (fun w1 c1 => (op_pick_f (v := .bool _) rfl rfl)) ?_
      exact leaf_q (sub_out 7 _ rfl (by kernel_rfl) ⟨(congrArg Value.bool (by rw [h3] <;> rfl)), trivial⟩)
  refine xm_next ?_
  refine cm_condB (by kernel_rfl) rfl (fun h4 => ?_) (fun h4 => ?_)
  · skip
    refine cm_seq ?_
    refine cm_region ?_
    refine lm_call 22 (V := (fun (r : Bool) (_u : Unit) => .bool r)) (HR := (fun (_r : Bool) (_u : Unit) => [])) (by kernel_rfl) (fun w1 => op_call (by kernel_rfl)) (fun r1 hr1 w1 c1 => m_recyclinglaw18_awake_ok N w1   r1 hr1) ?_
    intro r5 u6
    refine lm_val 6 (by kernel_rfl) (fun w1 c1 => (op_assign (v := .bool _) rfl)) ?_
    refine lm_nil ?_
    refine xm_next ?_
    refine cm_ret ?_
    refine xm_thenR ?_
    exact xm_retT rfl (by kernel_rfl) (show _ = Value.bool _ from rfl) fun w1 c1 => ⟨(), rfl, hsub [] (by kernel_rfl) rfl w1 c1⟩
  · skip
    refine cm_skip ?_
    refine xm_next ?_
    refine cm_seq ?_
    refine cm_region ?_
    refine lm_val 23 (by kernel_rfl) (fun w1 c1 => (op_move (v := .int .u8 _) rfl)) ?_
    refine lm_ck (fun h7 => ?_)
    refine lm_val 24 (by kernel_rfl) (fun w1 c1 => (op_convI64 rfl (by kernel_rfl) (by kernel_rfl) h7)) ?_
    refine lm_val 25 (by kernel_rfl) (fun w1 c1 => (op_move (v := .slice _ _ _) rfl)) ?_
    refine lm_val 26 (by kernel_rfl) (fun w1 c1 => (op_lenN rfl (by kernel_rfl) hz_p0.2.2)) ?_
    refine lm_ck (fun h8 => ?_)
    refine lm_val 27 (by kernel_rfl) (fun w1 c1 => (op_rem rfl rfl h8.1 h8.2)) ?_
    refine lm_val 7 (by kernel_rfl) (fun w1 c1 => (op_assign (v := .int .i64 _) rfl)) ?_
    refine lm_nil ?_
    refine xm_next ?_
    refine cm_seq ?_
    refine cm_region ?_
    refine lm_val 8 (by kernel_rfl) (fun w1 c1 => (op_assign (v := .slice _ _ _) rfl)) ?_
    refine lm_nil ?_
    refine xm_next ?_
    refine cm_join (σ := (List ApiEmptying)) (ξ := (Option Addr) × Nat × Nat) (fun s57 u58 => [(0, .slice A_p0 n_p0 c_p0), (1, .int .i64 p1), (8, .slice u58.1 u58.2.1 u58.2.2)]) (fun s57 u58 => [ownE 47 7 encApiEmptying u58.1 u58.2.1 u58.2.2 s57]) ?_ ?_
    · skip
      refine cm_seq ?_
      refine cm_region ?_
      refine lm_val 9 (by kernel_rfl) (fun w1 c1 => (op_assign (v := .int .i64 _) rfl)) ?_
      refine lm_nil ?_
      refine xm_next ?_
      refine cm_block ?_
      refine cm_nilrow 47 7 encApiEmptying ?_
      refine cm_loop (σ := (List ApiEmptying) × Int) (ξ := (Option Addr) × Nat × Nat) (fun s91 u92 => [(0, .slice A_p0 n_p0 c_p0), (1, .int .i64 p1), (7, .int .i64 (Int.tmod p2 (List.length p0 : Int))), (8, .slice u92.1 u92.2.1 u92.2.2), (9, .int .i64 s91.2)]) (fun s91 u92 => [ownE 47 7 encApiEmptying u92.1 u92.2.1 u92.2.2 s91.1]) (none, 0, 0) ?_ ?_ ?_
      · exact (sub_cons (by kernel_rfl) rfl (sub_cons (by kernel_rfl) rfl (sub_cons (by kernel_rfl) rfl (sub_cons (by kernel_rfl) rfl (sub_cons (by kernel_rfl) rfl sub_nil)))))
      · exact hsub [0] (by kernel_rfl) rfl
      intro s91 u92
      refine cm_seq ?_
      refine cm_seq ?_
      refine cm_region ?_
      refine lm_val 28 (by kernel_rfl) (fun w1 c1 => (op_move (v := .int .i64 _) rfl)) ?_
      refine lm_val 29 (by kernel_rfl) (fun w1 c1 => (op_move (v := .slice _ _ _) rfl)) ?_
      refine lm_val 30 (by kernel_rfl) (fun w1 c1 => (op_lenN rfl (by kernel_rfl) hz_p0.2.2)) ?_
      refine lm_val 31 (by kernel_rfl) (fun w1 c1 => (op_lss rfl rfl)) ?_
      refine lm_nil ?_
      refine xm_next ?_
      refine cm_cond (by kernel_rfl) rfl (fun h93 => ?_) (fun h93 => ?_)
      · skip
        refine cm_skip ?_
        refine xm_next ?_
        refine cm_seq ?_
        refine cm_block ?_
        refine cm_region ?_
        refine lm_val 34 (by kernel_rfl) (fun w1 c1 => (op_move (v := .slice _ _ _) rfl)) ?_
        refine lm_val 35 (by kernel_rfl) (fun w1 c1 => (op_move (v := .slice _ _ _) rfl)) ?_
        refine lm_val 36 (by kernel_rfl) (fun w1 c1 => (op_move (v := .int .i64 _) rfl)) ?_
        refine lm_val 37 (by kernel_rfl) (fun w1 c1 => (op_move (v := .slice _ _ _) rfl)) ?_
        refine lm_val 38 (by kernel_rfl) (fun w1 c1 => (op_lenN rfl (by kernel_rfl) hz_p0.2.2)) ?_
        refine lm_ck (fun h94 => ?_)
        refine lm_val 39 (by kernel_rfl) (fun w1 c1 => (op_add rfl rfl h94)) ?_
        refine lm_val 40 (by kernel_rfl) (fun w1 c1 => (op_move (v := .int .i64 _) rfl)) ?_
        refine lm_ck (fun h95 => ?_)
        refine lm_val 41 (by kernel_rfl) (fun w1 c1 => (op_sub rfl rfl h95)) ?_
        refine lm_val 42 (by kernel_rfl) (fun w1 c1 => (op_move (v := .slice _ _ _) rfl)) ?_
        refine lm_val 43 (by kernel_rfl) (fun w1 c1 => (op_lenN rfl (by kernel_rfl) hz_p0.2.2)) ?_
        refine lm_ck (fun h96 => ?_)
        refine lm_val 44 (by kernel_rfl) (fun w1 c1 => (op_rem rfl rfl h96.1 h96.2)) ?_
        refine lm_ck (fun h97 => ?_)
        refine lm_val 45 (by kernel_rfl) (fun w1 c1 => (op_indexA 7 rfl rfl (by kernel_rfl) ((hr_p0.old c1).addr h97.1 h97.2) hz_p0.2.2 h97.1 h97.2)) ?_
        refine lm_val 46 (by kernel_rfl) (fun w1 c1 => (op_loadR [.int .i64 ((ix p0 (Int.tmod (((Int.tmod p2 (List.length p0 : Int)) + (List.length p0 : Int)) - s91.2) (List.length p0 : Int))).ID), .int .i64 ((ix p0 (Int.tmod (((Int.tmod p2 (List.length p0 : Int)) + (List.length p0 : Int)) - s91.2) (List.length p0 : Int))).Container), .int .i64 ((ix p0 (Int.tmod (((Int.tmod p2 (List.length p0 : Int)) + (List.length p0 : Int)) - s91.2) (List.length p0 : Int))).Vehicle), .int .i64 ((ix p0 (Int.tmod (((Int.tmod p2 (List.length p0 : Int)) + (List.length p0 : Int)) - s91.2) (List.length p0 : Int))).At), .int .i64 ((ix p0 (Int.tmod (((Int.tmod p2 (List.length p0 : Int)) + (List.length p0 : Int)) - s91.2) (List.length p0 : Int))).Mass.Lo), .int .i64 ((ix p0 (Int.tmod (((Int.tmod p2 (List.length p0 : Int)) + (List.length p0 : Int)) - s91.2) (List.length p0 : Int))).Mass.Hi), .bool ((ix p0 (Int.tmod (((Int.tmod p2 (List.length p0 : Int)) + (List.length p0 : Int)) - s91.2) (List.length p0 : Int))).Void)] rfl (by kernel_rfl) ((hr_p0.old c1).row h97.1 h97.2))) ?_
        refine lm_slice1 47 (el := 47) (sz := 7) (bytes := 56) (enc := encApiEmptying) (ix p0 (Int.tmod (((Int.tmod p2 (List.length p0 : Int)) + (List.length p0 : Int)) - s91.2) (List.length p0 : Int))) (by kernel_rfl) (by kernel_rfl) encApiEmptying_len rfl (by kernel_rfl) ?_
        intro A98 n99 k100 h101
        refine lm_ck (fun h102 => ?_)
        refine lm_append 48 1 (el := 47) (sz := 7) (bytes := 56) (enc := encApiEmptying) (l2 := ([(ix p0 (Int.tmod (((Int.tmod p2 (List.length p0 : Int)) + (List.length p0 : Int)) - s91.2) (List.length p0 : Int)))])) (by kernel_rfl) (by kernel_rfl) encApiEmptying_len encApiEmptying_one rfl rfl rfl (fun w1 c1 => (c1.ownZ 0 rfl)) (fun w1 c1 => (c1.own 0 rfl encApiEmptying_len)) h102 ?_ (by kernel_rfl)
        intro A103 n104 k105
        refine lm_val 8 (by kernel_rfl) (fun w1 c1 => (op_assign (v := .slice _ _ _) rfl)) ?_
        refine lm_nil ?_
        refine xm_inN ?_
        refine xm_next ?_
        refine cm_region ?_
        refine lm_val 32 (by kernel_rfl) (fun w1 c1 => (op_move (v := .int .i64 _) rfl)) ?_
        refine lm_ck (fun h106 => ?_)
        refine lm_val 33 (by kernel_rfl) (fun w1 c1 => (op_add rfl rfl h106)) ?_
        refine lm_val 9 (by kernel_rfl) (fun w1 c1 => (op_assign (v := .int .i64 _) rfl)) ?_
        refine lm_nil ?_
        exact xm_lnext (A103, n104, k105) (sub_cons (by kernel_rfl) rfl (sub_cons (by kernel_rfl) rfl (sub_cons (by kernel_rfl) rfl (sub_cons (by kernel_rfl) rfl (sub_cons (by kernel_rfl) rfl sub_nil))))) (hsub [1] (by kernel_rfl) rfl)
      · skip
        refine cm_exit ?_
        refine xm_thenE ?_
        refine xm_lexit ?_
        refine xm_here ?_
        exact xm_lnext (u92.1, u92.2.1, u92.2.2) (sub_cons (by kernel_rfl) rfl (sub_cons (by kernel_rfl) rfl (sub_cons (by kernel_rfl) rfl sub_nil))) (hsub [0] (by kernel_rfl) rfl)
    intro s57 u58
    refine cm_seq ?_
    refine cm_region ?_
    refine lm_val 50 (by kernel_rfl) (fun w1 c1 => (op_move (v := .slice _ _ _) rfl)) ?_
    refine lm_val 51 (by kernel_rfl) (fun w1 c1 => (op_move (v := .int .i64 _) rfl)) ?_
    refine lm_call 52 (V := (fun (r : (List Int) × Int) (u : (Option Addr) × Nat × Nat) => .tuple #[.slice u.1 u.2.1 u.2.2, .int .i64 r.2])) (HR := (fun (r : (List Int) × Int) (u : (Option Addr) × Nat × Nat) => [ownE 3 1 encI u.1 u.2.1 u.2.2 r.1])) (by kernel_rfl) (fun w1 => op_call (by kernel_rfl)) (fun r1 hr1 w1 c1 => m_emptying_Counts_ok N w1 p0 p1 A_p0 n_p0 c_p0 (hr_p0.old c1) hz_p0 r1 hr1) ?_
    intro r107 u108
    refine lm_val 49 (by kernel_rfl) (fun w1 c1 => (op_move (v := .tuple _) rfl)) ?_
    refine lm_val 53 (by kernel_rfl) (fun w1 c1 => (op_extract (v := .slice _ _ _) rfl rfl)) ?_
    refine lm_val 54 (by kernel_rfl) (fun w1 c1 => (op_extract (v := .int .i64 _) rfl rfl)) ?_
    refine lm_val 10 (by kernel_rfl) (fun w1 c1 => (op_assign (v := .slice _ _ _) rfl)) ?_
    refine lm_val 11 (by kernel_rfl) (fun w1 c1 => (op_assign (v := .int .i64 _) rfl)) ?_
    refine lm_nil ?_
    refine xm_next ?_
    refine cm_seq ?_
    refine cm_region ?_
    refine lm_val 56 (by kernel_rfl) (fun w1 c1 => (op_move (v := .slice _ _ _) rfl)) ?_
    refine lm_val 57 (by kernel_rfl) (fun w1 c1 => (op_move (v := .int .i64 _) rfl)) ?_
    refine lm_call 58 (V := (fun (r : (List Int) × Int) (u : (Option Addr) × Nat × Nat) => .tuple #[.slice u.1 u.2.1 u.2.2, .int .i64 r.2])) (HR := (fun (r : (List Int) × Int) (u : (Option Addr) × Nat × Nat) => [ownE 3 1 encI u.1 u.2.1 u.2.2 r.1])) (by kernel_rfl) (fun w1 => op_call (by kernel_rfl)) (fun r1 hr1 w1 c1 => m_emptying_Counts_ok N w1 s57 p1 u58.1 u58.2.1 u58.2.2 (c1.own 1 rfl encApiEmptying_len) (c1.ownZ 1 rfl) r1 hr1) ?_
    intro r109 u110
    refine lm_val 55 (by kernel_rfl) (fun w1 c1 => (op_move (v := .tuple _) rfl)) ?_
    refine lm_val 59 (by kernel_rfl) (fun w1 c1 => (op_extract (v := .slice _ _ _) rfl rfl)) ?_
    refine lm_val 60 (by kernel_rfl) (fun w1 c1 => (op_extract (v := .int .i64 _) rfl rfl)) ?_
    refine lm_val 12 (by kernel_rfl) (fun w1 c1 => (op_assign (v := .slice _ _ _) rfl)) ?_
    refine lm_val 13 (by kernel_rfl) (fun w1 c1 => (op_assign (v := .int .i64 _) rfl)) ?_
    refine lm_nil ?_
    refine xm_next ?_
    refine cm_seq ?_
    refine cm_seq ?_
    refine cm_cutE [(66, .bool ((decide (r107.2 ≠ 0)) || (decide (r109.2 ≠ 0))))] ?_ ?_
    · skip
      refine wq_val 61 (by kernel_rfl) (fun w1 c1 => (op_move (v := .int .i64 _) rfl)) ?_
      refine wq_dec 62 (by kernel_rfl) (fun w1 c1 => (op_neq rfl rfl)) (fun h111 => ?_) (fun h111 => ?_)
      · skip
        refine wq_val 63 (by kernel_rfl) (fun w1 c1 => (op_move (v := .bool true) rfl)) ?_
        refine wq_skip 64 (by kernel_rfl) ?_
        refine wq_skip 65 (by kernel_rfl) ?_
        refine wq_val 66 (by kernel_rfl) (fun w1 c1 => (op_pick_t (v := .bool true) rfl rfl)) ?_
        exact leaf_q (sub_out 6 _ rfl (by kernel_rfl) ⟨(congrArg Value.bool (by rw [decide_eq_true h111] <;> rfl)), trivial⟩)
      · skip
        refine wq_val 63 (by kernel_rfl) (fun w1 c1 => (op_move (v := .bool false) rfl)) ?_
        refine wq_val 64 (by kernel_rfl) (fun w1 c1 => (op_move (v := .int .i64 _) rfl)) ?_
        refine wq_val 65 (by kernel_rfl) (fun w1 c1 => (op_neq rfl rfl)) ?_
        refine wq_val 66 (by kernel_rfl) (fun w1 c1 => (op_pick_f (v := .bool _) rfl rfl)) ?_
        exact leaf_q (sub_out 6 _ rfl (by kernel_rfl) ⟨(congrArg Value.bool (by rw [decide_eq_false h111] <;> rfl)), trivial⟩)
    refine xm_next ?_
    refine cm_condB (by kernel_rfl) rfl (fun h112 => ?_) (fun h112 => ?_)
    · skip
      refine cm_seq ?_
      refine cm_callIf fun r113 h114 => ?_
      refine cm_cutE [(6, .bool (((decide (r107.2 = 0)) == (decide (r109.2 = 0))) && r113))] ?_ ?_
      · skip
        refine wq_val 67 (by kernel_rfl) (fun w1 c1 => (op_move (v := .int .i64 _) rfl)) ?_
        refine wq_val 68 (by kernel_rfl) (fun w1 c1 => (op_eql rfl rfl)) ?_
        refine wq_val 69 (by kernel_rfl) (fun w1 c1 => (op_move (v := .int .i64 _) rfl)) ?_
        refine wq_val 70 (by kernel_rfl) (fun w1 c1 => (op_eql rfl rfl)) ?_
        refine wq_bool 71 (by kernel_rfl) (fun w1 c1 => (op_eqlB rfl rfl (by kernel_rfl))) (fun h115 => ?_) (fun h115 => ?_)
        · skip
          refine wq_val 72 (by kernel_rfl) (fun w1 c1 => (op_move (v := .bool true) rfl)) ?_
          refine wq_call 73 (by kernel_rfl) (fun w1 c1 => op_call (by kernel_rfl)) (fun w1 c1 => (m_recyclinglaw18_awake_ok N w1   r113 (h114 (by rw [h115] <;> rfl))).mono (fun _ _ ⟨_, hx, hu⟩ => ⟨hx, c1.call hu⟩)) ?_
          refine wq_val 74 (by kernel_rfl) (fun w1 c1 => (op_pick_t (v := .bool _) rfl rfl)) ?_
          refine wq_val 6 (by kernel_rfl) (fun w1 c1 => (op_assign (v := .bool _) rfl)) ?_
          exact leaf_q (sub_out 9 _ rfl (by kernel_rfl) ⟨(congrArg Value.bool (by rw [h115] <;> rfl)), trivial⟩)
        · skip
          refine wq_val 72 (by kernel_rfl) (fun w1 c1 => (op_move (v := .bool false) rfl)) ?_
          refine wq_skip 73 (by kernel_rfl) ?_
          refine wq_val 74 (by kernel_rfl) (fun w1 c1 => (op_pick_f (v := .bool false) rfl rfl)) ?_
          refine wq_val 6 (by kernel_rfl) (fun w1 c1 => (op_assign (v := .bool false) rfl)) ?_
          exact leaf_q (sub_out 9 _ rfl (by kernel_rfl) ⟨(congrArg Value.bool (by rw [h115] <;> rfl)), trivial⟩)
      refine xm_next ?_
      refine cm_ret ?_
      refine xm_thenR ?_
      exact xm_retT rfl (by kernel_rfl) (show _ = Value.bool _ from rfl) fun w1 c1 => ⟨(), rfl, hsub [] (by kernel_rfl) rfl w1 c1⟩
    · skip
      refine cm_skip ?_
      refine xm_next ?_
      refine cm_seq ?_
      refine cm_seq ?_
      refine cm_region ?_
      refine lm_val 75 (by kernel_rfl) (fun w1 c1 => (op_move (v := .slice _ _ _) rfl)) ?_
      refine lm_val 76 (by kernel_rfl) (fun w1 c1 => (op_lenN rfl (by kernel_rfl) (c1.ownZ 1 rfl).2.2)) ?_
      refine lm_val 77 (by kernel_rfl) (fun w1 c1 => (op_move (v := .slice _ _ _) rfl)) ?_
      refine lm_val 78 (by kernel_rfl) (fun w1 c1 => (op_lenN rfl (by kernel_rfl) (c1.ownZ 0 rfl).2.2)) ?_
      refine lm_val 79 (by kernel_rfl) (fun w1 c1 => (op_neq rfl rfl)) ?_
      refine lm_nil ?_
      refine xm_next ?_
      refine cm_cond (by kernel_rfl) rfl (fun h116 => ?_) (fun h116 => ?_)
      · skip
        refine cm_seq ?_
        refine cm_region ?_
        refine lm_val 6 (by kernel_rfl) (fun w1 c1 => (op_assign (v := .bool false) rfl)) ?_
        refine lm_nil ?_
        refine xm_next ?_
        refine cm_ret ?_
        refine xm_thenR ?_
        exact xm_retT rfl (by kernel_rfl) (show _ = Value.bool false from rfl) fun w1 c1 => ⟨(), rfl, hsub [] (by kernel_rfl) rfl w1 c1⟩
      · skip
        refine cm_skip ?_
        refine xm_next ?_
        refine cm_join (σ := Unit) (ξ := Unit) (fun s168 u169 => []) (fun s168 u169 => []) ?_ ?_
        · skip
          refine cm_seq ?_
          refine cm_region ?_
          refine lm_val 14 (by kernel_rfl) (fun w1 c1 => (op_assign (v := .int .i64 _) rfl)) ?_
          refine lm_nil ?_
          refine xm_next ?_
          refine cm_block ?_
          refine cm_loop (σ := Int) (ξ := Unit) (fun s204 u205 => [(0, .slice A_p0 n_p0 c_p0), (8, .slice u58.1 u58.2.1 u58.2.2), (10, .slice u108.1 u108.2.1 u108.2.2), (12, .slice u110.1 u110.2.1 u110.2.2), (14, .int .i64 s204)]) (fun s204 u205 => [ownE 47 7 encApiEmptying u58.1 u58.2.1 u58.2.2 s57, ownE 3 1 encI u108.1 u108.2.1 u108.2.2 r107.1, ownE 3 1 encI u110.1 u110.2.1 u110.2.2 r109.1]) () ?_ ?_ ?_
          · exact (sub_cons (by kernel_rfl) rfl (sub_cons (by kernel_rfl) rfl (sub_cons (by kernel_rfl) rfl (sub_cons (by kernel_rfl) rfl (sub_cons (by kernel_rfl) rfl sub_nil)))))
          · exact hsub [2, 1, 0] (by kernel_rfl) rfl
          intro s204 u205
          refine cm_seq ?_
          refine cm_seq ?_
          refine cm_region ?_
          refine lm_val 80 (by kernel_rfl) (fun w1 c1 => (op_move (v := .int .i64 _) rfl)) ?_
          refine lm_val 81 (by kernel_rfl) (fun w1 c1 => (op_move (v := .slice _ _ _) rfl)) ?_
          refine lm_val 82 (by kernel_rfl) (fun w1 c1 => (op_lenN rfl (by kernel_rfl) (c1.ownZ 1 rfl).2.2)) ?_
          refine lm_val 83 (by kernel_rfl) (fun w1 c1 => (op_lss rfl rfl)) ?_
          refine lm_nil ?_
          refine xm_next ?_
          refine cm_cond (by kernel_rfl) rfl (fun h206 => ?_) (fun h206 => ?_)
          · skip
            refine cm_skip ?_
            refine xm_next ?_
            refine cm_seq ?_
            refine cm_block ?_
            refine cm_seq ?_
            refine cm_ck (fun h207 => ?_)
            refine cm_ck (fun h208 => ?_)
            refine cm_ck (fun h209 => ?_)
            refine cm_ck (fun h210 => ?_)
            refine cm_ck (fun h211 => ?_)
            refine cm_ck (fun h212 => ?_)
            refine cm_ck (fun h213 => ?_)
            refine cm_ck (fun h214 => ?_)
            refine cm_drawn [(134, .bool (((((decide ((ix r107.1 s204) < 0)) || (decide ((List.length p0 : Int) ≤ (ix r107.1 s204)))) || (decide ((ix r109.1 s204) < 0))) || (decide ((List.length p0 : Int) ≤ (ix r109.1 s204)))) || (decide ((ix p0 (ix r107.1 s204)).ID ≠ (ix s57 (ix r109.1 s204)).ID))))] (by kernel_rfl) (by kernel_rfl) ?_ ?_
            · skip
              refine wq_val 86 (by kernel_rfl) (fun w1 c1 => (op_move (v := .slice _ _ _) rfl)) ?_
              refine wq_val 87 (by kernel_rfl) (fun w1 c1 => (op_move (v := .int .i64 _) rfl)) ?_
              refine wq_val 88 (by kernel_rfl) (fun w1 c1 => (op_indexA 1 rfl rfl (by kernel_rfl) ((c1.own 1 rfl encI_len).addr h207.1 h207.2) (c1.ownZ 1 rfl).2.2 h207.1 h207.2)) ?_
              refine wq_val 89 (by kernel_rfl) (fun w1 c1 => (op_load (v := .int .i64 (ix r107.1 s204)) rfl (by kernel_rfl) ((c1.own 1 rfl encI_len).cell0 h207.1 h207.2 rfl))) ?_
              refine wq_dec 90 (by kernel_rfl) (fun w1 c1 => (op_lss rfl rfl)) (fun h215 => ?_) (fun h215 => ?_)
              · skip
                refine wq_val 91 (by kernel_rfl) (fun w1 c1 => (op_move (v := .bool true) rfl)) ?_
                refine wq_skip 92 (by kernel_rfl) ?_
                refine wq_skip 93 (by kernel_rfl) ?_
                refine wq_skip 94 (by kernel_rfl) ?_
                refine wq_skip 95 (by kernel_rfl) ?_
                refine wq_skip 96 (by kernel_rfl) ?_
                refine wq_skip 97 (by kernel_rfl) ?_
                refine wq_skip 98 (by kernel_rfl) ?_
                refine wq_val 99 (by kernel_rfl) (fun w1 c1 => (op_pick_t (v := .bool true) rfl rfl)) ?_
                refine wq_val 100 (by kernel_rfl) (fun w1 c1 => (op_move (v := .bool true) rfl)) ?_
                refine wq_skip 101 (by kernel_rfl) ?_
                refine wq_skip 102 (by kernel_rfl) ?_
                refine wq_skip 103 (by kernel_rfl) ?_
                refine wq_skip 104 (by kernel_rfl) ?_
                refine wq_skip 105 (by kernel_rfl) ?_
                refine wq_val 106 (by kernel_rfl) (fun w1 c1 => (op_pick_t (v := .bool true) rfl rfl)) ?_
                refine wq_val 107 (by kernel_rfl) (fun w1 c1 => (op_move (v := .bool true) rfl)) ?_
                refine wq_skip 108 (by kernel_rfl) ?_
                refine wq_skip 109 (by kernel_rfl) ?_
                refine wq_skip 110 (by kernel_rfl) ?_
                refine wq_skip 111 (by kernel_rfl) ?_
                refine wq_skip 112 (by kernel_rfl) ?_
                refine wq_skip 113 (by kernel_rfl) ?_
                refine wq_skip 114 (by kernel_rfl) ?_
                refine wq_val 115 (by kernel_rfl) (fun w1 c1 => (op_pick_t (v := .bool true) rfl rfl)) ?_
                refine wq_val 116 (by kernel_rfl) (fun w1 c1 => (op_move (v := .bool true) rfl)) ?_
                refine wq_skip 117 (by kernel_rfl) ?_
                refine wq_skip 118 (by kernel_rfl) ?_
                refine wq_skip 119 (by kernel_rfl) ?_
                refine wq_skip 120 (by kernel_rfl) ?_
                refine wq_skip 121 (by kernel_rfl) ?_
                refine wq_skip 122 (by kernel_rfl) ?_
                refine wq_skip 123 (by kernel_rfl) ?_
                refine wq_skip 124 (by kernel_rfl) ?_
                refine wq_skip 125 (by kernel_rfl) ?_
                refine wq_skip 126 (by kernel_rfl) ?_
                refine wq_skip 127 (by kernel_rfl) ?_
                refine wq_skip 128 (by kernel_rfl) ?_
                refine wq_skip 129 (by kernel_rfl) ?_
                refine wq_skip 130 (by kernel_rfl) ?_
                refine wq_skip 131 (by kernel_rfl) ?_
                refine wq_skip 132 (by kernel_rfl) ?_
                refine wq_skip 133 (by kernel_rfl) ?_
                refine wq_val 134 (by kernel_rfl) (fun w1 c1 => (op_pick_t (v := .bool true) rfl rfl)) ?_
                exact leaf_q (sub_out 49 _ rfl (by kernel_rfl) ⟨(congrArg Value.bool (by rw [decide_eq_true h215] <;> rfl)), trivial⟩)
              · skip
                refine wq_val 91 (by kernel_rfl) (fun w1 c1 => (op_move (v := .bool false) rfl)) ?_
                refine wq_val 92 (by kernel_rfl) (fun w1 c1 => (op_move (v := .slice _ _ _) rfl)) ?_
                refine wq_val 93 (by kernel_rfl) (fun w1 c1 => (op_move (v := .int .i64 _) rfl)) ?_
                refine wq_val 94 (by kernel_rfl) (fun w1 c1 => (op_indexA 1 rfl rfl (by kernel_rfl) ((c1.own 1 rfl encI_len).addr (h208 (by rw [decide_eq_false h215] <;> rfl)).1 (h208 (by rw [decide_eq_false h215] <;> rfl)).2) (c1.ownZ 1 rfl).2.2 (h208 (by rw [decide_eq_false h215] <;> rfl)).1 (h208 (by rw [decide_eq_false h215] <;> rfl)).2)) ?_
                refine wq_val 95 (by kernel_rfl) (fun w1 c1 => (op_load (v := .int .i64 (ix r107.1 s204)) rfl (by kernel_rfl) ((c1.own 1 rfl encI_len).cell0 (h208 (by rw [decide_eq_false h215] <;> rfl)).1 (h208 (by rw [decide_eq_false h215] <;> rfl)).2 rfl))) ?_
                refine wq_val 96 (by kernel_rfl) (fun w1 c1 => (op_move (v := .slice _ _ _) rfl)) ?_
                refine wq_val 97 (by kernel_rfl) (fun w1 c1 => (op_lenN rfl (by kernel_rfl) hz_p0.2.2)) ?_
                refine wq_dec 98 (by kernel_rfl) (fun w1 c1 => (op_geq rfl rfl)) (fun h216 => ?_) (fun h216 => ?_)
                · skip
                  refine wq_val 99 (by kernel_rfl) (fun w1 c1 => (op_pick_f (v := .bool true) rfl rfl)) ?_
                  refine wq_val 100 (by kernel_rfl) (fun w1 c1 => (op_move (v := .bool true) rfl)) ?_
                  refine wq_skip 101 (by kernel_rfl) ?_
                  refine wq_skip 102 (by kernel_rfl) ?_
                  refine wq_skip 103 (by kernel_rfl) ?_
                  refine wq_skip 104 (by kernel_rfl) ?_
                  refine wq_skip 105 (by kernel_rfl) ?_
                  refine wq_val 106 (by kernel_rfl) (fun w1 c1 => (op_pick_t (v := .bool true) rfl rfl)) ?_
                  refine wq_val 107 (by kernel_rfl) (fun w1 c1 => (op_move (v := .bool true) rfl)) ?_
                  refine wq_skip 108 (by kernel_rfl) ?_
                  refine wq_skip 109 (by kernel_rfl) ?_
                  refine wq_skip 110 (by kernel_rfl) ?_
                  refine wq_skip 111 (by kernel_rfl) ?_
                  refine wq_skip 112 (by kernel_rfl) ?_
                  refine wq_skip 113 (by kernel_rfl) ?_
                  refine wq_skip 114 (by kernel_rfl) ?_
                  refine wq_val 115 (by kernel_rfl) (fun w1 c1 => (op_pick_t (v := .bool true) rfl rfl)) ?_
                  refine wq_val 116 (by kernel_rfl) (fun w1 c1 => (op_move (v := .bool true) rfl)) ?_
                  refine wq_skip 117 (by kernel_rfl) ?_
                  refine wq_skip 118 (by kernel_rfl) ?_
                  refine wq_skip 119 (by kernel_rfl) ?_
                  refine wq_skip 120 (by kernel_rfl) ?_
                  refine wq_skip 121 (by kernel_rfl) ?_
                  refine wq_skip 122 (by kernel_rfl) ?_
                  refine wq_skip 123 (by kernel_rfl) ?_
                  refine wq_skip 124 (by kernel_rfl) ?_
                  refine wq_skip 125 (by kernel_rfl) ?_
                  refine wq_skip 126 (by kernel_rfl) ?_
                  refine wq_skip 127 (by kernel_rfl) ?_
                  refine wq_skip 128 (by kernel_rfl) ?_
                  refine wq_skip 129 (by kernel_rfl) ?_
                  refine wq_skip 130 (by kernel_rfl) ?_
                  refine wq_skip 131 (by kernel_rfl) ?_
                  refine wq_skip 132 (by kernel_rfl) ?_
                  refine wq_skip 133 (by kernel_rfl) ?_
                  refine wq_val 134 (by kernel_rfl) (fun w1 c1 => (op_pick_t (v := .bool true) rfl rfl)) ?_
                  exact leaf_q (sub_out 49 _ rfl (by kernel_rfl) ⟨(congrArg Value.bool (by rw [decide_eq_false h215, decide_eq_true h216] <;> rfl)), trivial⟩)
                · skip
                  refine wq_val 99 (by kernel_rfl) (fun w1 c1 => (op_pick_f (v := .bool false) rfl rfl)) ?_
                  refine wq_val 100 (by kernel_rfl) (fun w1 c1 => (op_move (v := .bool false) rfl)) ?_
                  refine wq_val 101 (by kernel_rfl) (fun w1 c1 => (op_move (v := .slice _ _ _) rfl)) ?_
                  refine wq_val 102 (by kernel_rfl) (fun w1 c1 => (op_move (v := .int .i64 _) rfl)) ?_
                  refine wq_val 103 (by kernel_rfl) (fun w1 c1 => (op_indexA 1 rfl rfl (by kernel_rfl) ((c1.own 2 rfl encI_len).addr (h209 (by rw [decide_eq_false h215, decide_eq_false h216] <;> rfl)).1 (h209 (by rw [decide_eq_false h215, decide_eq_false h216] <;> rfl)).2) (c1.ownZ 2 rfl).2.2 (h209 (by rw [decide_eq_false h215, decide_eq_false h216] <;> rfl)).1 (h209 (by rw [decide_eq_false h215, decide_eq_false h216] <;> rfl)).2)) ?_
                  refine wq_val 104 (by kernel_rfl) (fun w1 c1 => (op_load (v := .int .i64 (ix r109.1 s204)) rfl (by kernel_rfl) ((c1.own 2 rfl encI_len).cell0 (h209 (by rw [decide_eq_false h215, decide_eq_false h216] <;> rfl)).1 (h209 (by rw [decide_eq_false h215, decide_eq_false h216] <;> rfl)).2 rfl))) ?_
                  refine wq_dec 105 (by kernel_rfl) (fun w1 c1 => (op_lss rfl rfl)) (fun h217 => ?_) (fun h217 => ?_)
                  · skip
                    refine wq_val 106 (by kernel_rfl) (fun w1 c1 => (op_pick_f (v := .bool true) rfl rfl)) ?_
                    refine wq_val 107 (by kernel_rfl) (fun w1 c1 => (op_move (v := .bool true) rfl)) ?_
                    refine wq_skip 108 (by kernel_rfl) ?_
                    refine wq_skip 109 (by kernel_rfl) ?_
                    refine wq_skip 110 (by kernel_rfl) ?_
                    refine wq_skip 111 (by kernel_rfl) ?_
                    refine wq_skip 112 (by kernel_rfl) ?_
                    refine wq_skip 113 (by kernel_rfl) ?_
                    refine wq_skip 114 (by kernel_rfl) ?_
                    refine wq_val 115 (by kernel_rfl) (fun w1 c1 => (op_pick_t (v := .bool true) rfl rfl)) ?_
                    refine wq_val 116 (by kernel_rfl) (fun w1 c1 => (op_move (v := .bool true) rfl)) ?_
                    refine wq_skip 117 (by kernel_rfl) ?_
                    refine wq_skip 118 (by kernel_rfl) ?_
                    refine wq_skip 119 (by kernel_rfl) ?_
                    refine wq_skip 120 (by kernel_rfl) ?_
                    refine wq_skip 121 (by kernel_rfl) ?_
                    refine wq_skip 122 (by kernel_rfl) ?_
                    refine wq_skip 123 (by kernel_rfl) ?_
                    refine wq_skip 124 (by kernel_rfl) ?_
                    refine wq_skip 125 (by kernel_rfl) ?_
                    refine wq_skip 126 (by kernel_rfl) ?_
                    refine wq_skip 127 (by kernel_rfl) ?_
                    refine wq_skip 128 (by kernel_rfl) ?_
                    refine wq_skip 129 (by kernel_rfl) ?_
                    refine wq_skip 130 (by kernel_rfl) ?_
                    refine wq_skip 131 (by kernel_rfl) ?_
                    refine wq_skip 132 (by kernel_rfl) ?_
                    refine wq_skip 133 (by kernel_rfl) ?_
                    refine wq_val 134 (by kernel_rfl) (fun w1 c1 => (op_pick_t (v := .bool true) rfl rfl)) ?_
                    exact leaf_q (sub_out 49 _ rfl (by kernel_rfl) ⟨(congrArg Value.bool (by rw [decide_eq_false h215, decide_eq_false h216, decide_eq_true h217] <;> rfl)), trivial⟩)
                  · skip
                    refine wq_val 106 (by kernel_rfl) (fun w1 c1 => (op_pick_f (v := .bool false) rfl rfl)) ?_
                    refine wq_val 107 (by kernel_rfl) (fun w1 c1 => (op_move (v := .bool false) rfl)) ?_
                    refine wq_val 108 (by kernel_rfl) (fun w1 c1 => (op_move (v := .slice _ _ _) rfl)) ?_
                    refine wq_val 109 (by kernel_rfl) (fun w1 c1 => (op_move (v := .int .i64 _) rfl)) ?_
                    refine wq_val 110 (by kernel_rfl) (fun w1 c1 => (op_indexA 1 rfl rfl (by kernel_rfl) ((c1.own 2 rfl encI_len).addr (h210 (by rw [decide_eq_false h215, decide_eq_false h216, decide_eq_false h217] <;> rfl)).1 (h210 (by rw [decide_eq_false h215, decide_eq_false h216, decide_eq_false h217] <;> rfl)).2) (c1.ownZ 2 rfl).2.2 (h210 (by rw [decide_eq_false h215, decide_eq_false h216, decide_eq_false h217] <;> rfl)).1 (h210 (by rw [decide_eq_false h215, decide_eq_false h216, decide_eq_false h217] <;> rfl)).2)) ?_
                    refine wq_val 111 (by kernel_rfl) (fun w1 c1 => (op_load (v := .int .i64 (ix r109.1 s204)) rfl (by kernel_rfl) ((c1.own 2 rfl encI_len).cell0 (h210 (by rw [decide_eq_false h215, decide_eq_false h216, decide_eq_false h217] <;> rfl)).1 (h210 (by rw [decide_eq_false h215, decide_eq_false h216, decide_eq_false h217] <;> rfl)).2 rfl))) ?_
                    refine wq_val 112 (by kernel_rfl) (fun w1 c1 => (op_move (v := .slice _ _ _) rfl)) ?_
                    refine wq_val 113 (by kernel_rfl) (fun w1 c1 => (op_lenN rfl (by kernel_rfl) hz_p0.2.2)) ?_
                    refine wq_dec 114 (by kernel_rfl) (fun w1 c1 => (op_geq rfl rfl)) (fun h218 => ?_) (fun h218 => ?_)
                    · skip
                      refine wq_val 115 (by kernel_rfl) (fun w1 c1 => (op_pick_f (v := .bool true) rfl rfl)) ?_
                      refine wq_val 116 (by kernel_rfl) (fun w1 c1 => (op_move (v := .bool true) rfl)) ?_
                      refine wq_skip 117 (by kernel_rfl) ?_
                      refine wq_skip 118 (by kernel_rfl) ?_
                      refine wq_skip 119 (by kernel_rfl) ?_
                      refine wq_skip 120 (by kernel_rfl) ?_
                      refine wq_skip 121 (by kernel_rfl) ?_
                      refine wq_skip 122 (by kernel_rfl) ?_
                      refine wq_skip 123 (by kernel_rfl) ?_
                      refine wq_skip 124 (by kernel_rfl) ?_
                      refine wq_skip 125 (by kernel_rfl) ?_
                      refine wq_skip 126 (by kernel_rfl) ?_
                      refine wq_skip 127 (by kernel_rfl) ?_
                      refine wq_skip 128 (by kernel_rfl) ?_
                      refine wq_skip 129 (by kernel_rfl) ?_
                      refine wq_skip 130 (by kernel_rfl) ?_
                      refine wq_skip 131 (by kernel_rfl) ?_
                      refine wq_skip 132 (by kernel_rfl) ?_
                      refine wq_skip 133 (by kernel_rfl) ?_
                      refine wq_val 134 (by kernel_rfl) (fun w1 c1 => (op_pick_t (v := .bool true) rfl rfl)) ?_
                      exact leaf_q (sub_out 49 _ rfl (by kernel_rfl) ⟨(congrArg Value.bool (by rw [decide_eq_false h215, decide_eq_false h216, decide_eq_false h217, decide_eq_true h218] <;> rfl)), trivial⟩)
                    · skip
                      refine wq_val 115 (by kernel_rfl) (fun w1 c1 => (op_pick_f (v := .bool false) rfl rfl)) ?_
                      refine wq_val 116 (by kernel_rfl) (fun w1 c1 => (op_move (v := .bool false) rfl)) ?_
                      refine wq_val 117 (by kernel_rfl) (fun w1 c1 => (op_move (v := .slice _ _ _) rfl)) ?_
                      refine wq_val 118 (by kernel_rfl) (fun w1 c1 => (op_move (v := .slice _ _ _) rfl)) ?_
                      refine wq_val 119 (by kernel_rfl) (fun w1 c1 => (op_move (v := .int .i64 _) rfl)) ?_
                      refine wq_val 120 (by kernel_rfl) (fun w1 c1 => (op_indexA 1 rfl rfl (by kernel_rfl) ((c1.own 1 rfl encI_len).addr (h211 (by rw [decide_eq_false h215, decide_eq_false h216, decide_eq_false h217, decide_eq_false h218] <;> rfl)).1 (h211 (by rw [decide_eq_false h215, decide_eq_false h216, decide_eq_false h217, decide_eq_false h218] <;> rfl)).2) (c1.ownZ 1 rfl).2.2 (h211 (by rw [decide_eq_false h215, decide_eq_false h216, decide_eq_false h217, decide_eq_false h218] <;> rfl)).1 (h211 (by rw [decide_eq_false h215, decide_eq_false h216, decide_eq_false h217, decide_eq_false h218] <;> rfl)).2)) ?_
                      refine wq_val 121 (by kernel_rfl) (fun w1 c1 => (op_load (v := .int .i64 (ix r107.1 s204)) rfl (by kernel_rfl) ((c1.own 1 rfl encI_len).cell0 (h211 (by rw [decide_eq_false h215, decide_eq_false h216, decide_eq_false h217, decide_eq_false h218] <;> rfl)).1 (h211 (by rw [decide_eq_false h215, decide_eq_false h216, decide_eq_false h217, decide_eq_false h218] <;> rfl)).2 rfl))) ?_
                      refine wq_val 122 (by kernel_rfl) (fun w1 c1 => (op_indexA 7 rfl rfl (by kernel_rfl) ((hr_p0.old c1).addr (h212 (by rw [decide_eq_false h215, decide_eq_false h216, decide_eq_false h217, decide_eq_false h218] <;> rfl)).1 (h212 (by rw [decide_eq_false h215, decide_eq_false h216, decide_eq_false h217, decide_eq_false h218] <;> rfl)).2) hz_p0.2.2 (h212 (by rw [decide_eq_false h215, decide_eq_false h216, decide_eq_false h217, decide_eq_false h218] <;> rfl)).1 (h212 (by rw [decide_eq_false h215, decide_eq_false h216, decide_eq_false h217, decide_eq_false h218] <;> rfl)).2)) ?_
                      refine wq_val 123 (by kernel_rfl) (fun w1 c1 => (op_field0 rfl (by kernel_rfl))) ?_
                      refine wq_val 124 (by kernel_rfl) (fun w1 c1 => (op_load (v := .int .i64 ((ix p0 (ix r107.1 s204)).ID)) rfl (by kernel_rfl) ((hr_p0.old c1).cell0 (h212 (by rw [decide_eq_false h215, decide_eq_false h216, decide_eq_false h217, decide_eq_false h218] <;> rfl)).1 (h212 (by rw [decide_eq_false h215, decide_eq_false h216, decide_eq_false h217, decide_eq_false h218] <;> rfl)).2 rfl))) ?_
                      refine wq_val 125 (by kernel_rfl) (fun w1 c1 => (op_move (v := .slice _ _ _) rfl)) ?_
                      refine wq_val 126 (by kernel_rfl) (fun w1 c1 => (op_move (v := .slice _ _ _) rfl)) ?_
                      refine wq_val 127 (by kernel_rfl) (fun w1 c1 => (op_move (v := .int .i64 _) rfl)) ?_
                      refine wq_val 128 (by kernel_rfl) (fun w1 c1 => (op_indexA 1 rfl rfl (by kernel_rfl) ((c1.own 2 rfl encI_len).addr (h213 (by rw [decide_eq_false h215, decide_eq_false h216, decide_eq_false h217, decide_eq_false h218] <;> rfl)).1 (h213 (by rw [decide_eq_false h215, decide_eq_false h216, decide_eq_false h217, decide_eq_false h218] <;> rfl)).2) (c1.ownZ 2 rfl).2.2 (h213 (by rw [decide_eq_false h215, decide_eq_false h216, decide_eq_false h217, decide_eq_false h218] <;> rfl)).1 (h213 (by rw [decide_eq_false h215, decide_eq_false h216, decide_eq_false h217, decide_eq_false h218] <;> rfl)).2)) ?_
                      refine wq_val 129 (by kernel_rfl) (fun w1 c1 => (op_load (v := .int .i64 (ix r109.1 s204)) rfl (by kernel_rfl) ((c1.own 2 rfl encI_len).cell0 (h213 (by rw [decide_eq_false h215, decide_eq_false h216, decide_eq_false h217, decide_eq_false h218] <;> rfl)).1 (h213 (by rw [decide_eq_false h215, decide_eq_false h216, decide_eq_false h217, decide_eq_false h218] <;> rfl)).2 rfl))) ?_
                      refine wq_val 130 (by kernel_rfl) (fun w1 c1 => (op_indexA 7 rfl rfl (by kernel_rfl) ((c1.own 0 rfl encApiEmptying_len).addr (h214 (by rw [decide_eq_false h215, decide_eq_false h216, decide_eq_false h217, decide_eq_false h218] <;> rfl)).1 (h214 (by rw [decide_eq_false h215, decide_eq_false h216, decide_eq_false h217, decide_eq_false h218] <;> rfl)).2) (c1.ownZ 0 rfl).2.2 (h214 (by rw [decide_eq_false h215, decide_eq_false h216, decide_eq_false h217, decide_eq_false h218] <;> rfl)).1 (h214 (by rw [decide_eq_false h215, decide_eq_false h216, decide_eq_false h217, decide_eq_false h218] <;> rfl)).2)) ?_
                      refine wq_val 131 (by kernel_rfl) (fun w1 c1 => (op_field0 rfl (by kernel_rfl))) ?_
                      refine wq_val 132 (by kernel_rfl) (fun w1 c1 => (op_load (v := .int .i64 ((ix s57 (ix r109.1 s204)).ID)) rfl (by kernel_rfl) ((c1.own 0 rfl encApiEmptying_len).cell0 (h214 (by rw [decide_eq_false h215, decide_eq_false h216, decide_eq_false h217, decide_eq_false h218] <;> rfl)).1 (h214 (by rw [decide_eq_false h215, decide_eq_false h216, decide_eq_false h217, decide_eq_false h218] <;> rfl)).2 rfl))) ?_
                      refine wq_val 133 (by kernel_rfl) (fun w1 c1 => (op_neq rfl rfl)) ?_
                      refine wq_val 134 (by kernel_rfl) (fun w1 c1 => (op_pick_f (v := .bool _) rfl rfl)) ?_
                      exact leaf_q (sub_out 49 _ rfl (by kernel_rfl) ⟨(congrArg Value.bool (by rw [decide_eq_false h215, decide_eq_false h216, decide_eq_false h217, decide_eq_false h218] <;> rfl)), trivial⟩)
            refine xm_next ?_
            refine cm_condB (by kernel_rfl) rfl (fun h219 => ?_) (fun h219 => ?_)
            · skip
              refine cm_seq ?_
              refine cm_region ?_
              refine lm_val 6 (by kernel_rfl) (fun w1 c1 => (op_assign (v := .bool false) rfl)) ?_
              refine lm_nil ?_
              refine xm_next ?_
              refine cm_ret ?_
              refine xm_inR ?_
              refine xm_thenR ?_
              refine xm_lret ?_
              refine xm_inR ?_
              refine xm_lret ?_
              exact xm_retT rfl (by kernel_rfl) (show _ = Value.bool false from rfl) fun w1 c1 => ⟨(), rfl, hsub [] (by kernel_rfl) rfl w1 c1⟩
            · skip
              refine cm_skip ?_
              refine xm_inN ?_
              refine xm_next ?_
              refine cm_region ?_
              refine lm_val 84 (by kernel_rfl) (fun w1 c1 => (op_move (v := .int .i64 _) rfl)) ?_
              refine lm_ck (fun h220 => ?_)
              refine lm_val 85 (by kernel_rfl) (fun w1 c1 => (op_add rfl rfl h220)) ?_
              refine lm_val 14 (by kernel_rfl) (fun w1 c1 => (op_assign (v := .int .i64 _) rfl)) ?_
              refine lm_nil ?_
              exact xm_lnext () (sub_cons (by kernel_rfl) rfl (sub_cons (by kernel_rfl) rfl (sub_cons (by kernel_rfl) rfl (sub_cons (by kernel_rfl) rfl (sub_cons (by kernel_rfl) rfl sub_nil))))) (hsub [0, 1, 2] (by kernel_rfl) rfl)
          · skip
            refine cm_exit ?_
            refine xm_thenE ?_
            refine xm_lexit ?_
            refine xm_here ?_
            exact xm_lnext () sub_nil (hsub [] (by kernel_rfl) rfl)
        intro s168 u169
        refine cm_seq ?_
        refine cm_region ?_
        refine lm_call 135 (V := (fun (r : Bool) (_u : Unit) => .bool r)) (HR := (fun (_r : Bool) (_u : Unit) => [])) (by kernel_rfl) (fun w1 => op_call (by kernel_rfl)) (fun r1 hr1 w1 c1 => m_recyclinglaw18_awake_ok N w1   r1 hr1) ?_
        intro r221 u222
        refine lm_val 6 (by kernel_rfl) (fun w1 c1 => (op_assign (v := .bool _) rfl)) ?_
        refine lm_nil ?_
        refine xm_next ?_
        refine cm_ret ?_
        exact xm_retT rfl (by kernel_rfl) (show _ = Value.bool _ from rfl) fun w1 c1 => ⟨(), rfl, hsub [] (by kernel_rfl) rfl w1 c1⟩
end Go.Proofs.Ytkepegnnkmmefaa
