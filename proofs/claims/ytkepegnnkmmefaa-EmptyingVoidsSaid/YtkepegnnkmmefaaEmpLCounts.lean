/- Models of functions, and that the code follows them. Written by deco.py. -/
import Derived.Test.YtkepegnnkmmefaaEmpAwake
namespace Go.Proofs.Ytkepegnnkmmefaa
open Go.RowKit

/-- recyclinglaw18.EmptyingCounts -/
def m_recyclinglaw18_EmptyingCounts (N : Nat) (p0 : (List ApiEmptying)) (p1 : Int) : Option (Bool) :=
  Option.bind (m_recyclinglaw18_great N p0) fun r1 => (if r1 = true then
    Option.bind (m_recyclinglaw18_awake N) fun r4 => some (r4)
  else
    Option.bind (m_emptying_Counts N p0 p1) fun r6 => (if r6.2 ≠ 0 then
      callIf (decide ((List.length r6.1 : Int) = 0) = true) (m_recyclinglaw18_awake N) fun r9 => some (((decide ((List.length r6.1 : Int) = 0)) && r9))
    else
      ck ((0 : Int) ≤ (List.length p0 : Int) ∧ Int.toNat (List.length p0 : Int) * 1 ≤ 140737488355328) (
        (andThen
          (loopM (fun (s2239 : (List Bool) × Int) =>
            (if s2239.2 < (List.length r6.1 : Int) then
              (andThen
                (ck ((0 : Int) ≤ s2239.2 ∧ s2239.2 < (List.length r6.1 : Int)) (
                  ck ((!(decide ((ix r6.1 s2239.2) < 0))) = true → (0 : Int) ≤ s2239.2 ∧ s2239.2 < (List.length r6.1 : Int)) (
                    ck ((!((decide ((ix r6.1 s2239.2) < 0)) || (decide ((List.length p0 : Int) ≤ (ix r6.1 s2239.2))))) = true → (0 : Int) ≤ s2239.2 ∧ s2239.2 < (List.length r6.1 : Int)) (
                      ck ((!((decide ((ix r6.1 s2239.2) < 0)) || (decide ((List.length p0 : Int) ≤ (ix r6.1 s2239.2))))) = true → (0 : Int) ≤ (ix r6.1 s2239.2) ∧ (ix r6.1 s2239.2) < (List.length s2239.1 : Int)) (
                        ck ((!(((decide ((ix r6.1 s2239.2) < 0)) || (decide ((List.length p0 : Int) ≤ (ix r6.1 s2239.2)))) || (ix s2239.1 (ix r6.1 s2239.2)))) = true → (0 : Int) ≤ s2239.2 ∧ s2239.2 < (List.length r6.1 : Int)) (
                          ck ((!(((decide ((ix r6.1 s2239.2) < 0)) || (decide ((List.length p0 : Int) ≤ (ix r6.1 s2239.2)))) || (ix s2239.1 (ix r6.1 s2239.2)))) = true → (0 : Int) ≤ (ix r6.1 s2239.2) ∧ (ix r6.1 s2239.2) < (List.length p0 : Int)) (
                            (if ((((decide ((ix r6.1 s2239.2) < 0)) || (decide ((List.length p0 : Int) ≤ (ix r6.1 s2239.2)))) || (ix s2239.1 (ix r6.1 s2239.2))) || ((ix p0 (ix r6.1 s2239.2)).Void)) = true then
                              some (.done (.done (.done (false))))
                            else
                              ck ((0 : Int) ≤ s2239.2 ∧ s2239.2 < (List.length r6.1 : Int)) (
                                ck ((0 : Int) ≤ (ix r6.1 s2239.2) ∧ (ix r6.1 s2239.2) < (List.length s2239.1 : Int)) (
                                  (loopM (fun (s2613 : Int) =>
                                    (if s2613 < s2239.2 then
                                      ck ((0 : Int) ≤ s2613 ∧ s2613 < (List.length r6.1 : Int)) (
                                        ck ((0 : Int) ≤ (ix r6.1 s2613) ∧ (ix r6.1 s2613) < (List.length p0 : Int)) (
                                          ck ((0 : Int) ≤ s2239.2 ∧ s2239.2 < (List.length r6.1 : Int)) (
                                            ck ((0 : Int) ≤ (ix r6.1 s2239.2) ∧ (ix r6.1 s2239.2) < (List.length p0 : Int)) (
                                              ck (((!((decide ((ix p0 (ix r6.1 s2239.2)).At < (ix p0 (ix r6.1 s2613)).At)) || ((decide ((ix p0 (ix r6.1 s2613)).At = (ix p0 (ix r6.1 s2239.2)).At)) && (decide ((ix p0 (ix r6.1 s2239.2)).ID ≤ (ix p0 (ix r6.1 s2613)).ID))))) && (decide ((ix p0 (ix r6.1 s2613)).Container = (ix p0 (ix r6.1 s2239.2)).Container))) = true → I64 (((ix p0 (ix r6.1 s2239.2)).At) - ((ix p0 (ix r6.1 s2613)).At))) (
                                                (if (((decide ((ix p0 (ix r6.1 s2239.2)).At < (ix p0 (ix r6.1 s2613)).At)) || ((decide ((ix p0 (ix r6.1 s2613)).At = (ix p0 (ix r6.1 s2239.2)).At)) && (decide ((ix p0 (ix r6.1 s2239.2)).ID ≤ (ix p0 (ix r6.1 s2613)).ID)))) || ((decide ((ix p0 (ix r6.1 s2613)).Container = (ix p0 (ix r6.1 s2239.2)).Container)) && (decide ((((ix p0 (ix r6.1 s2239.2)).At) - ((ix p0 (ix r6.1 s2613)).At)) ≤ p1)))) = true then
                                                  some (.done (.done (.done (.done (false)))))
                                                else
                                                  ck (I64 (s2613 + (1 : Int))) (
                                                    some (.next (s2613 + (1 : Int))))))))))
                                    else
                                      some (.done (.next ())))) N (0 : Int))))))))))))
              fun (_s2461 : Unit) =>
                ck (I64 (s2239.2 + (1 : Int))) (
                  some (.next ((List.set s2239.1 (Int.toNat (ix r6.1 s2239.2)) true), (s2239.2 + (1 : Int))))))
            else
              some (.done (.next s2239.1)))) N ((List.replicate (Int.toNat (List.length p0 : Int)) false), (0 : Int)))
        fun (s1349 : (List Bool)) =>
          (andThen
            (loopM (fun (s3155 : Int) =>
              (if s3155 < (List.length p0 : Int) then
                ck ((0 : Int) ≤ s3155 ∧ s3155 < (List.length s1349 : Int)) (
                  ck ((!(ix s1349 s3155)) = true → (0 : Int) ≤ s3155 ∧ s3155 < (List.length p0 : Int)) (
                    (andThen
                      (loopM (fun (s3233 : Bool × Int) =>
                        (if ((decide (s3233.2 < (List.length r6.1 : Int))) && (!s3233.1)) = true then
                          ck ((0 : Int) ≤ s3233.2 ∧ s3233.2 < (List.length r6.1 : Int)) (
                            ck ((0 : Int) ≤ (ix r6.1 s3233.2) ∧ (ix r6.1 s3233.2) < (List.length p0 : Int)) (
                              ck ((0 : Int) ≤ s3155 ∧ s3155 < (List.length p0 : Int)) (
                                ck (decide ((ix p0 (ix r6.1 s3233.2)).Container = (ix p0 s3155).Container) = true → (0 : Int) ≤ s3155 ∧ s3155 < (List.length p0 : Int)) (
                                  ck (((decide ((ix p0 (ix r6.1 s3233.2)).Container = (ix p0 s3155).Container)) && (decide ((ix p0 (ix r6.1 s3233.2)).At ≤ (ix p0 s3155).At))) = true → (0 : Int) ≤ s3155 ∧ s3155 < (List.length p0 : Int)) (
                                    ck (((decide ((ix p0 (ix r6.1 s3233.2)).Container = (ix p0 s3155).Container)) && (decide ((ix p0 (ix r6.1 s3233.2)).At ≤ (ix p0 s3155).At))) = true → I64 (((ix p0 s3155).At) - ((ix p0 (ix r6.1 s3233.2)).At))) (
                                      ck (I64 (s3233.2 + (1 : Int))) (
                                        some (.next ((((decide ((ix p0 (ix r6.1 s3233.2)).Container = (ix p0 s3155).Container)) && (decide ((ix p0 (ix r6.1 s3233.2)).At ≤ (ix p0 s3155).At))) && (decide ((((ix p0 s3155).At) - ((ix p0 (ix r6.1 s3233.2)).At)) ≤ p1))), (s3233.2 + (1 : Int)))))))))))
                        else
                          some (.done (.next s3233.1)))) N (((ix s1349 s3155) || ((ix p0 s3155).Void)), (0 : Int)))
                    fun (s3203 : Bool) =>
                      (if (!s3203) = true then
                        some (.done (.done (false)))
                      else
                        ck (I64 (s3155 + (1 : Int))) (
                          some (.next (s3155 + (1 : Int))))))))
              else
                some (.done (.next ())))) N (0 : Int))
          fun (_s2965 : Unit) =>
            Option.bind (m_recyclinglaw18_awake N) fun r3249 => some (r3249))))))
set_option maxRecDepth 20000 in
theorem m_recyclinglaw18_EmptyingCounts_ok (N : Nat) (w0 : World) (p0 : (List ApiEmptying)) (p1 : Int) (A_p0 : Option Addr) (n_p0 c_p0 : Nat) (hr_p0 : RdE w0 7 encApiEmptying A_p0 p0) (hz_p0 : SW A_p0 n_p0 c_p0 (List.length p0)) (r : Bool) (hr : m_recyclinglaw18_EmptyingCounts N p0 p1 = some r) :
    Calls Try.prog 7 [.slice A_p0 n_p0 c_p0, .int .i64 p1].toArray w0 fun x w1 => ∃ u, x = .returned ((fun (r : Bool) (_u : Unit) => .bool r) r u) ∧ Hs w0 ((fun (_r : Bool) (_u : Unit) => []) r u) w1 := by
  refine calls_cm (n := 202) (R := fun r x w1 => ∃ u, x = .returned ((fun (r : Bool) (_u : Unit) => .bool r) r u) ∧ Hs w0 ((fun (_r : Bool) (_u : Unit) => []) r u) w1) Try.func7 rfl rfl (Nat.le_of_ble_eq_true rfl) ?_ r hr
  unfold m_recyclinglaw18_EmptyingCounts
  refine cm_seq ?_
  refine cm_region ?_
  refine lm_val 4 (by kernel_rfl) (fun w1 c1 => (op_assign (v := .bool false) rfl)) ?_
  refine lm_nil ?_
  refine xm_next ?_
  refine cm_seq ?_
  refine cm_seq ?_
  refine cm_region ?_
  refine lm_val 16 (by kernel_rfl) (fun w1 c1 => (op_move (v := .slice _ _ _) rfl)) ?_
  refine lm_call 17 (V := (fun (r : Bool) (_u : Unit) => .bool r)) (HR := (fun (_r : Bool) (_u : Unit) => [])) (by kernel_rfl) (fun w1 => op_call (by kernel_rfl)) (fun r1 hr1 w1 c1 => m_recyclinglaw18_great_ok N w1 p0 A_p0 n_p0 c_p0 (hr_p0.old c1) hz_p0 r1 hr1) ?_
  intro r1 u2
  refine lm_nil ?_
  refine xm_next ?_
  refine cm_condB (by kernel_rfl) rfl (fun h3 => ?_) (fun h3 => ?_)
  · skip
    refine cm_seq ?_
    refine cm_region ?_
    refine lm_call 18 (V := (fun (r : Bool) (_u : Unit) => .bool r)) (HR := (fun (_r : Bool) (_u : Unit) => [])) (by kernel_rfl) (fun w1 => op_call (by kernel_rfl)) (fun r1 hr1 w1 c1 => m_recyclinglaw18_awake_ok N w1   r1 hr1) ?_
    intro r4 u5
    refine lm_val 4 (by kernel_rfl) (fun w1 c1 => (op_assign (v := .bool _) rfl)) ?_
    refine lm_nil ?_
    refine xm_next ?_
    refine cm_ret ?_
    refine xm_thenR ?_
    exact xm_retT rfl (by kernel_rfl) (show _ = Value.bool _ from rfl) fun w1 c1 => ⟨(), rfl, hsub [] (by kernel_rfl) rfl w1 c1⟩
  · skip
    refine cm_skip ?_
    refine xm_next ?_
    refine cm_seq ?_
    refine cm_region ?_
    refine lm_val 20 (by kernel_rfl) (fun w1 c1 => (op_move (v := .slice _ _ _) rfl)) ?_
    refine lm_val 21 (by kernel_rfl) (fun w1 c1 => (op_move (v := .int .i64 _) rfl)) ?_
    refine lm_call 22 (V := (fun (r : (List Int) × Int) (u : (Option Addr) × Nat × Nat) => .tuple #[.slice u.1 u.2.1 u.2.2, .int .i64 r.2])) (HR := (fun (r : (List Int) × Int) (u : (Option Addr) × Nat × Nat) => [ownE 3 1 encI u.1 u.2.1 u.2.2 r.1])) (by kernel_rfl) (fun w1 => op_call (by kernel_rfl)) (fun r1 hr1 w1 c1 => m_emptying_Counts_ok N w1 p0 p1 A_p0 n_p0 c_p0 (hr_p0.old c1) hz_p0 r1 hr1) ?_
    intro r6 u7
    refine lm_val 19 (by kernel_rfl) (fun w1 c1 => (op_move (v := .tuple _) rfl)) ?_
    refine lm_val 23 (by kernel_rfl) (fun w1 c1 => (op_extract (v := .slice _ _ _) rfl rfl)) ?_
    refine lm_val 24 (by kernel_rfl) (fun w1 c1 => (op_extract (v := .int .i64 _) rfl rfl)) ?_
    refine lm_val 5 (by kernel_rfl) (fun w1 c1 => (op_assign (v := .slice _ _ _) rfl)) ?_
    refine lm_val 6 (by kernel_rfl) (fun w1 c1 => (op_assign (v := .int .i64 _) rfl)) ?_
    refine lm_nil ?_
    refine xm_next ?_
    refine cm_seq ?_
    refine cm_seq ?_
    refine cm_region ?_
    refine lm_val 25 (by kernel_rfl) (fun w1 c1 => (op_move (v := .int .i64 _) rfl)) ?_
    refine lm_val 26 (by kernel_rfl) (fun w1 c1 => (op_neq rfl rfl)) ?_
    refine lm_nil ?_
    refine xm_next ?_
    refine cm_cond (by kernel_rfl) rfl (fun h8 => ?_) (fun h8 => ?_)
    · skip
      refine cm_seq ?_
      refine cm_callIf fun r9 h10 => ?_
      refine cm_cutE [(4, .bool ((decide ((List.length r6.1 : Int) = 0)) && r9))] ?_ ?_
      · skip
        refine wq_val 27 (by kernel_rfl) (fun w1 c1 => (op_move (v := .slice _ _ _) rfl)) ?_
        refine wq_val 28 (by kernel_rfl) (fun w1 c1 => (op_lenN rfl (by kernel_rfl) (c1.ownZ 0 rfl).2.2)) ?_
        refine wq_dec 29 (by kernel_rfl) (fun w1 c1 => (op_eql rfl rfl)) (fun h11 => ?_) (fun h11 => ?_)
        · skip
          refine wq_val 30 (by kernel_rfl) (fun w1 c1 => (op_move (v := .bool true) rfl)) ?_
          refine wq_call 31 (by kernel_rfl) (fun w1 c1 => op_call (by kernel_rfl)) (fun w1 c1 => (m_recyclinglaw18_awake_ok N w1   r9 (h10 (by rw [decide_eq_true h11] <;> rfl))).mono (fun _ _ ⟨_, hx, hu⟩ => ⟨hx, c1.call hu⟩)) ?_
          refine wq_val 32 (by kernel_rfl) (fun w1 c1 => (op_pick_t (v := .bool _) rfl rfl)) ?_
          refine wq_val 4 (by kernel_rfl) (fun w1 c1 => (op_assign (v := .bool _) rfl)) ?_
          exact leaf_q (sub_out 7 _ rfl (by kernel_rfl) ⟨(congrArg Value.bool (by rw [decide_eq_true h11] <;> rfl)), trivial⟩)
        · skip
          refine wq_val 30 (by kernel_rfl) (fun w1 c1 => (op_move (v := .bool false) rfl)) ?_
          refine wq_skip 31 (by kernel_rfl) ?_
          refine wq_val 32 (by kernel_rfl) (fun w1 c1 => (op_pick_f (v := .bool false) rfl rfl)) ?_
          refine wq_val 4 (by kernel_rfl) (fun w1 c1 => (op_assign (v := .bool false) rfl)) ?_
          exact leaf_q (sub_out 7 _ rfl (by kernel_rfl) ⟨(congrArg Value.bool (by rw [decide_eq_false h11] <;> rfl)), trivial⟩)
      refine xm_next ?_
      refine cm_ret ?_
      refine xm_thenR ?_
      exact xm_retT rfl (by kernel_rfl) (show _ = Value.bool _ from rfl) fun w1 c1 => ⟨(), rfl, hsub [] (by kernel_rfl) rfl w1 c1⟩
    · skip
      refine cm_skip ?_
      refine xm_next ?_
      refine cm_seq ?_
      refine cm_region ?_
      refine lm_val 33 (by kernel_rfl) (fun w1 c1 => (op_move (v := .slice _ _ _) rfl)) ?_
      refine lm_val 34 (by kernel_rfl) (fun w1 c1 => (op_lenN rfl (by kernel_rfl) hz_p0.2.2)) ?_
      refine lm_ck (fun h12 => ?_)
      refine lm_make 35 (el := 4) (sz := 1) (bytes := 1) (enc := encB) false (zv := .bool false) (by kernel_rfl) (by kernel_rfl) (by kernel_rfl) rfl encB_len rfl rfl h12.1 h12.2 (by kernel_rfl) ?_
      intro A13 n14 k15 h16
      refine lm_val 7 (by kernel_rfl) (fun w1 c1 => (op_assign (v := .slice _ _ _) rfl)) ?_
      refine lm_nil ?_
      refine xm_next ?_
      refine cm_join (σ := (List Bool)) (ξ := Unit) (fun s1349 u1350 => [(0, .slice A_p0 n_p0 c_p0), (1, .int .i64 p1), (5, .slice u7.1 u7.2.1 u7.2.2), (7, .slice A13 n14 k15)]) (fun s1349 u1350 => [ownE 3 1 encI u7.1 u7.2.1 u7.2.2 r6.1, ownE 4 1 encB A13 n14 k15 s1349]) ?_ ?_
      · skip
        refine cm_seq ?_
        refine cm_region ?_
        refine lm_val 8 (by kernel_rfl) (fun w1 c1 => (op_assign (v := .int .i64 _) rfl)) ?_
        refine lm_nil ?_
        refine xm_next ?_
        refine cm_block ?_
        refine cm_loop (σ := (List Bool) × Int) (ξ := Unit) (fun s2239 u2240 => [(0, .slice A_p0 n_p0 c_p0), (1, .int .i64 p1), (5, .slice u7.1 u7.2.1 u7.2.2), (7, .slice A13 n14 k15), (8, .int .i64 s2239.2)]) (fun s2239 u2240 => [ownE 3 1 encI u7.1 u7.2.1 u7.2.2 r6.1, ownE 4 1 encB A13 n14 k15 s2239.1]) () ?_ ?_ ?_
        · exact (sub_cons (by kernel_rfl) rfl (sub_cons (by kernel_rfl) rfl (sub_cons (by kernel_rfl) rfl (sub_cons (by kernel_rfl) rfl (sub_cons (by kernel_rfl) rfl sub_nil)))))
        · exact hsub [1, 0] (by kernel_rfl) rfl
        intro s2239 u2240
        refine cm_seq ?_
        refine cm_seq ?_
        refine cm_region ?_
        refine lm_val 36 (by kernel_rfl) (fun w1 c1 => (op_move (v := .int .i64 _) rfl)) ?_
        refine lm_val 37 (by kernel_rfl) (fun w1 c1 => (op_move (v := .slice _ _ _) rfl)) ?_
        refine lm_val 38 (by kernel_rfl) (fun w1 c1 => (op_lenN rfl (by kernel_rfl) (c1.ownZ 0 rfl).2.2)) ?_
        refine lm_val 39 (by kernel_rfl) (fun w1 c1 => (op_lss rfl rfl)) ?_
        refine lm_nil ?_
        refine xm_next ?_
        refine cm_cond (by kernel_rfl) rfl (fun h2241 => ?_) (fun h2241 => ?_)
        · skip
          refine cm_skip ?_
          refine xm_next ?_
          refine cm_join (σ := Unit) (ξ := Unit) (fun s2461 u2462 => [(0, .slice A_p0 n_p0 c_p0), (1, .int .i64 p1), (5, .slice u7.1 u7.2.1 u7.2.2), (7, .slice A13 n14 k15), (8, .int .i64 s2239.2)]) (fun s2461 u2462 => [ownE 3 1 encI u7.1 u7.2.1 u7.2.2 r6.1, ownE 4 1 encB A13 n14 k15 (List.set s2239.1 (Int.toNat (ix r6.1 s2239.2)) true)]) ?_ ?_
          · skip
            refine cm_block ?_
            refine cm_seq ?_
            refine cm_seq ?_
            refine cm_ck (fun h2463 => ?_)
            refine cm_ck (fun h2464 => ?_)
            refine cm_ck (fun h2465 => ?_)
            refine cm_ck (fun h2466 => ?_)
            refine cm_ck (fun h2467 => ?_)
            refine cm_ck (fun h2468 => ?_)
            refine cm_cutE [(74, .bool ((((decide ((ix r6.1 s2239.2) < 0)) || (decide ((List.length p0 : Int) ≤ (ix r6.1 s2239.2)))) || (ix s2239.1 (ix r6.1 s2239.2))) || ((ix p0 (ix r6.1 s2239.2)).Void)))] ?_ ?_
            · skip
              refine wq_val 42 (by kernel_rfl) (fun w1 c1 => (op_move (v := .slice _ _ _) rfl)) ?_
              refine wq_val 43 (by kernel_rfl) (fun w1 c1 => (op_move (v := .int .i64 _) rfl)) ?_
              refine wq_val 44 (by kernel_rfl) (fun w1 c1 => (op_indexA 1 rfl rfl (by kernel_rfl) ((c1.own 0 rfl encI_len).addr h2463.1 h2463.2) (c1.ownZ 0 rfl).2.2 h2463.1 h2463.2)) ?_
              refine wq_val 45 (by kernel_rfl) (fun w1 c1 => (op_load (v := .int .i64 (ix r6.1 s2239.2)) rfl (by kernel_rfl) ((c1.own 0 rfl encI_len).cell0 h2463.1 h2463.2 rfl))) ?_
              refine wq_dec 46 (by kernel_rfl) (fun w1 c1 => (op_lss rfl rfl)) (fun h2469 => ?_) (fun h2469 => ?_)
              · skip
                refine wq_val 47 (by kernel_rfl) (fun w1 c1 => (op_move (v := .bool true) rfl)) ?_
                refine wq_skip 48 (by kernel_rfl) ?_
                refine wq_skip 49 (by kernel_rfl) ?_
                refine wq_skip 50 (by kernel_rfl) ?_
                refine wq_skip 51 (by kernel_rfl) ?_
                refine wq_skip 52 (by kernel_rfl) ?_
                refine wq_skip 53 (by kernel_rfl) ?_
                refine wq_skip 54 (by kernel_rfl) ?_
                refine wq_val 55 (by kernel_rfl) (fun w1 c1 => (op_pick_t (v := .bool true) rfl rfl)) ?_
                refine wq_val 56 (by kernel_rfl) (fun w1 c1 => (op_move (v := .bool true) rfl)) ?_
                refine wq_skip 57 (by kernel_rfl) ?_
                refine wq_skip 58 (by kernel_rfl) ?_
                refine wq_skip 59 (by kernel_rfl) ?_
                refine wq_skip 60 (by kernel_rfl) ?_
                refine wq_skip 61 (by kernel_rfl) ?_
                refine wq_skip 62 (by kernel_rfl) ?_
                refine wq_skip 63 (by kernel_rfl) ?_
                refine wq_val 64 (by kernel_rfl) (fun w1 c1 => (op_pick_t (v := .bool true) rfl rfl)) ?_
                refine wq_val 65 (by kernel_rfl) (fun w1 c1 => (op_move (v := .bool true) rfl)) ?_
                refine wq_skip 66 (by kernel_rfl) ?_
                refine wq_skip 67 (by kernel_rfl) ?_
                refine wq_skip 68 (by kernel_rfl) ?_
                refine wq_skip 69 (by kernel_rfl) ?_
                refine wq_skip 70 (by kernel_rfl) ?_
                refine wq_skip 71 (by kernel_rfl) ?_
                refine wq_skip 72 (by kernel_rfl) ?_
                refine wq_skip 73 (by kernel_rfl) ?_
                refine wq_val 74 (by kernel_rfl) (fun w1 c1 => (op_pick_t (v := .bool true) rfl rfl)) ?_
                exact leaf_q (sub_out 33 _ rfl (by kernel_rfl) ⟨(congrArg Value.bool (by rw [decide_eq_true h2469] <;> rfl)), trivial⟩)
              · skip
                refine wq_val 47 (by kernel_rfl) (fun w1 c1 => (op_move (v := .bool false) rfl)) ?_
                refine wq_val 48 (by kernel_rfl) (fun w1 c1 => (op_move (v := .slice _ _ _) rfl)) ?_
                refine wq_val 49 (by kernel_rfl) (fun w1 c1 => (op_move (v := .int .i64 _) rfl)) ?_
                refine wq_val 50 (by kernel_rfl) (fun w1 c1 => (op_indexA 1 rfl rfl (by kernel_rfl) ((c1.own 0 rfl encI_len).addr (h2464 (by rw [decide_eq_false h2469] <;> rfl)).1 (h2464 (by rw [decide_eq_false h2469] <;> rfl)).2) (c1.ownZ 0 rfl).2.2 (h2464 (by rw [decide_eq_false h2469] <;> rfl)).1 (h2464 (by rw [decide_eq_false h2469] <;> rfl)).2)) ?_
                refine wq_val 51 (by kernel_rfl) (fun w1 c1 => (op_load (v := .int .i64 (ix r6.1 s2239.2)) rfl (by kernel_rfl) ((c1.own 0 rfl encI_len).cell0 (h2464 (by rw [decide_eq_false h2469] <;> rfl)).1 (h2464 (by rw [decide_eq_false h2469] <;> rfl)).2 rfl))) ?_
                refine wq_val 52 (by kernel_rfl) (fun w1 c1 => (op_move (v := .slice _ _ _) rfl)) ?_
                refine wq_val 53 (by kernel_rfl) (fun w1 c1 => (op_lenN rfl (by kernel_rfl) hz_p0.2.2)) ?_
                refine wq_dec 54 (by kernel_rfl) (fun w1 c1 => (op_geq rfl rfl)) (fun h2470 => ?_) (fun h2470 => ?_)
                · skip
                  refine wq_val 55 (by kernel_rfl) (fun w1 c1 => (op_pick_f (v := .bool true) rfl rfl)) ?_
                  refine wq_val 56 (by kernel_rfl) (fun w1 c1 => (op_move (v := .bool true) rfl)) ?_
                  refine wq_skip 57 (by kernel_rfl) ?_
                  refine wq_skip 58 (by kernel_rfl) ?_
                  refine wq_skip 59 (by kernel_rfl) ?_
                  refine wq_skip 60 (by kernel_rfl) ?_
                  refine wq_skip 61 (by kernel_rfl) ?_
                  refine wq_skip 62 (by kernel_rfl) ?_
                  refine wq_skip 63 (by kernel_rfl) ?_
                  refine wq_val 64 (by kernel_rfl) (fun w1 c1 => (op_pick_t (v := .bool true) rfl rfl)) ?_
                  refine wq_val 65 (by kernel_rfl) (fun w1 c1 => (op_move (v := .bool true) rfl)) ?_
                  refine wq_skip 66 (by kernel_rfl) ?_
                  refine wq_skip 67 (by kernel_rfl) ?_
                  refine wq_skip 68 (by kernel_rfl) ?_
                  refine wq_skip 69 (by kernel_rfl) ?_
                  refine wq_skip 70 (by kernel_rfl) ?_
                  refine wq_skip 71 (by kernel_rfl) ?_
                  refine wq_skip 72 (by kernel_rfl) ?_
                  refine wq_skip 73 (by kernel_rfl) ?_
                  refine wq_val 74 (by kernel_rfl) (fun w1 c1 => (op_pick_t (v := .bool true) rfl rfl)) ?_
                  exact leaf_q (sub_out 33 _ rfl (by kernel_rfl) ⟨(congrArg Value.bool (by rw [decide_eq_false h2469, decide_eq_true h2470] <;> rfl)), trivial⟩)
                · skip
                  refine wq_val 55 (by kernel_rfl) (fun w1 c1 => (op_pick_f (v := .bool false) rfl rfl)) ?_
                  refine wq_val 56 (by kernel_rfl) (fun w1 c1 => (op_move (v := .bool false) rfl)) ?_
                  refine wq_val 57 (by kernel_rfl) (fun w1 c1 => (op_move (v := .slice _ _ _) rfl)) ?_
                  refine wq_val 58 (by kernel_rfl) (fun w1 c1 => (op_move (v := .slice _ _ _) rfl)) ?_
                  refine wq_val 59 (by kernel_rfl) (fun w1 c1 => (op_move (v := .int .i64 _) rfl)) ?_
                  refine wq_val 60 (by kernel_rfl) (fun w1 c1 => (op_indexA 1 rfl rfl (by kernel_rfl) ((c1.own 0 rfl encI_len).addr (h2465 (by rw [decide_eq_false h2469, decide_eq_false h2470] <;> rfl)).1 (h2465 (by rw [decide_eq_false h2469, decide_eq_false h2470] <;> rfl)).2) (c1.ownZ 0 rfl).2.2 (h2465 (by rw [decide_eq_false h2469, decide_eq_false h2470] <;> rfl)).1 (h2465 (by rw [decide_eq_false h2469, decide_eq_false h2470] <;> rfl)).2)) ?_
                  refine wq_val 61 (by kernel_rfl) (fun w1 c1 => (op_load (v := .int .i64 (ix r6.1 s2239.2)) rfl (by kernel_rfl) ((c1.own 0 rfl encI_len).cell0 (h2465 (by rw [decide_eq_false h2469, decide_eq_false h2470] <;> rfl)).1 (h2465 (by rw [decide_eq_false h2469, decide_eq_false h2470] <;> rfl)).2 rfl))) ?_
                  refine wq_val 62 (by kernel_rfl) (fun w1 c1 => (op_indexA 1 rfl rfl (by kernel_rfl) ((c1.own 1 rfl encB_len).addr (h2466 (by rw [decide_eq_false h2469, decide_eq_false h2470] <;> rfl)).1 (h2466 (by rw [decide_eq_false h2469, decide_eq_false h2470] <;> rfl)).2) (c1.ownZ 1 rfl).2.2 (h2466 (by rw [decide_eq_false h2469, decide_eq_false h2470] <;> rfl)).1 (h2466 (by rw [decide_eq_false h2469, decide_eq_false h2470] <;> rfl)).2)) ?_
                  refine wq_bool 63 (by kernel_rfl) (fun w1 c1 => (op_load (v := .bool (ix s2239.1 (ix r6.1 s2239.2))) rfl (by kernel_rfl) ((c1.own 1 rfl encB_len).cell0 (h2466 (by rw [decide_eq_false h2469, decide_eq_false h2470] <;> rfl)).1 (h2466 (by rw [decide_eq_false h2469, decide_eq_false h2470] <;> rfl)).2 rfl))) (fun h2471 => ?_) (fun h2471 => ?_)
                  · skip
                    refine wq_val 64 (by kernel_rfl) (fun w1 c1 => (op_pick_f (v := .bool true) rfl rfl)) ?_
                    refine wq_val 65 (by kernel_rfl) (fun w1 c1 => (op_move (v := .bool true) rfl)) ?_
                    refine wq_skip 66 (by kernel_rfl) ?_
                    refine wq_skip 67 (by kernel_rfl) ?_
                    refine wq_skip 68 (by kernel_rfl) ?_
                    refine wq_skip 69 (by kernel_rfl) ?_
                    refine wq_skip 70 (by kernel_rfl) ?_
                    refine wq_skip 71 (by kernel_rfl) ?_
                    refine wq_skip 72 (by kernel_rfl) ?_
                    refine wq_skip 73 (by kernel_rfl) ?_
                    refine wq_val 74 (by kernel_rfl) (fun w1 c1 => (op_pick_t (v := .bool true) rfl rfl)) ?_
                    exact leaf_q (sub_out 33 _ rfl (by kernel_rfl) ⟨(congrArg Value.bool (by rw [decide_eq_false h2469, decide_eq_false h2470, h2471] <;> rfl)), trivial⟩)
                  · skip
                    refine wq_val 64 (by kernel_rfl) (fun w1 c1 => (op_pick_f (v := .bool false) rfl rfl)) ?_
                    refine wq_val 65 (by kernel_rfl) (fun w1 c1 => (op_move (v := .bool false) rfl)) ?_
                    refine wq_val 66 (by kernel_rfl) (fun w1 c1 => (op_move (v := .slice _ _ _) rfl)) ?_
                    refine wq_val 67 (by kernel_rfl) (fun w1 c1 => (op_move (v := .slice _ _ _) rfl)) ?_
                    refine wq_val 68 (by kernel_rfl) (fun w1 c1 => (op_move (v := .int .i64 _) rfl)) ?_
                    refine wq_val 69 (by kernel_rfl) (fun w1 c1 => (op_indexA 1 rfl rfl (by kernel_rfl) ((c1.own 0 rfl encI_len).addr (h2467 (by rw [decide_eq_false h2469, decide_eq_false h2470, h2471] <;> rfl)).1 (h2467 (by rw [decide_eq_false h2469, decide_eq_false h2470, h2471] <;> rfl)).2) (c1.ownZ 0 rfl).2.2 (h2467 (by rw [decide_eq_false h2469, decide_eq_false h2470, h2471] <;> rfl)).1 (h2467 (by rw [decide_eq_false h2469, decide_eq_false h2470, h2471] <;> rfl)).2)) ?_
                    refine wq_val 70 (by kernel_rfl) (fun w1 c1 => (op_load (v := .int .i64 (ix r6.1 s2239.2)) rfl (by kernel_rfl) ((c1.own 0 rfl encI_len).cell0 (h2467 (by rw [decide_eq_false h2469, decide_eq_false h2470, h2471] <;> rfl)).1 (h2467 (by rw [decide_eq_false h2469, decide_eq_false h2470, h2471] <;> rfl)).2 rfl))) ?_
                    refine wq_val 71 (by kernel_rfl) (fun w1 c1 => (op_indexA 7 rfl rfl (by kernel_rfl) ((hr_p0.old c1).addr (h2468 (by rw [decide_eq_false h2469, decide_eq_false h2470, h2471] <;> rfl)).1 (h2468 (by rw [decide_eq_false h2469, decide_eq_false h2470, h2471] <;> rfl)).2) hz_p0.2.2 (h2468 (by rw [decide_eq_false h2469, decide_eq_false h2470, h2471] <;> rfl)).1 (h2468 (by rw [decide_eq_false h2469, decide_eq_false h2470, h2471] <;> rfl)).2)) ?_
                    refine wq_val 72 (by kernel_rfl) (fun w1 c1 => (op_field (m := 6) rfl (by kernel_rfl))) ?_
                    refine wq_val 73 (by kernel_rfl) (fun w1 c1 => (op_load (v := .bool ((ix p0 (ix r6.1 s2239.2)).Void)) rfl (by kernel_rfl) ((hr_p0.old c1).cell (j := 6) (h2468 (by rw [decide_eq_false h2469, decide_eq_false h2470, h2471] <;> rfl)).1 (h2468 (by rw [decide_eq_false h2469, decide_eq_false h2470, h2471] <;> rfl)).2 rfl))) ?_
                    refine wq_val 74 (by kernel_rfl) (fun w1 c1 => (op_pick_f (v := .bool _) rfl rfl)) ?_
                    exact leaf_q (sub_out 33 _ rfl (by kernel_rfl) ⟨(congrArg Value.bool (by rw [decide_eq_false h2469, decide_eq_false h2470, h2471] <;> rfl)), trivial⟩)
            refine xm_next ?_
            refine cm_condB (by kernel_rfl) rfl (fun h2472 => ?_) (fun h2472 => ?_)
            · skip
              refine cm_seq ?_
              refine cm_region ?_
              refine lm_val 4 (by kernel_rfl) (fun w1 c1 => (op_assign (v := .bool false) rfl)) ?_
              refine lm_nil ?_
              refine xm_next ?_
              refine cm_ret ?_
              refine xm_thenR ?_
              refine xm_inR ?_
              refine xm_lret ?_
              refine xm_lret ?_
              refine xm_inR ?_
              refine xm_lret ?_
              exact xm_retT rfl (by kernel_rfl) (show _ = Value.bool false from rfl) fun w1 c1 => ⟨(), rfl, hsub [] (by kernel_rfl) rfl w1 c1⟩
            · skip
              refine cm_skip ?_
              refine xm_next ?_
              refine cm_seq ?_
              refine cm_region ?_
              refine lm_val 75 (by kernel_rfl) (fun w1 c1 => (op_move (v := .slice _ _ _) rfl)) ?_
              refine lm_val 76 (by kernel_rfl) (fun w1 c1 => (op_move (v := .slice _ _ _) rfl)) ?_
              refine lm_val 77 (by kernel_rfl) (fun w1 c1 => (op_move (v := .int .i64 _) rfl)) ?_
              refine lm_ck (fun h2473 => ?_)
              refine lm_val 78 (by kernel_rfl) (fun w1 c1 => (op_indexA 1 rfl rfl (by kernel_rfl) ((c1.own 0 rfl encI_len).addr h2473.1 h2473.2) (c1.ownZ 0 rfl).2.2 h2473.1 h2473.2)) ?_
              refine lm_val 79 (by kernel_rfl) (fun w1 c1 => (op_load (v := .int .i64 (ix r6.1 s2239.2)) rfl (by kernel_rfl) ((c1.own 0 rfl encI_len).cell0 h2473.1 h2473.2 rfl))) ?_
              refine lm_ck (fun h2474 => ?_)
              refine lm_val 80 (by kernel_rfl) (fun w1 c1 => (op_indexA 1 rfl rfl (by kernel_rfl) ((c1.own 1 rfl encB_len).addr h2474.1 h2474.2) (c1.ownZ 1 rfl).2.2 h2474.1 h2474.2)) ?_
              refine lm_storeIx 1 true 0 [.bool true] (by kernel_rfl) rfl rfl (by kernel_rfl) rfl rfl rfl encB_len encB_one h2474.1 h2474.2 (by kernel_rfl) rfl ?_
              refine lm_nil ?_
              refine xm_next ?_
              refine cm_seq ?_
              refine cm_region ?_
              refine lm_val 9 (by kernel_rfl) (fun w1 c1 => (op_assign (v := .int .i64 _) rfl)) ?_
              refine lm_nil ?_
              refine xm_next ?_
              refine cm_block ?_
              refine cm_loop (σ := Int) (ξ := Unit) (fun s2613 u2614 => [(0, .slice A_p0 n_p0 c_p0), (1, .int .i64 p1), (5, .slice u7.1 u7.2.1 u7.2.2), (7, .slice A13 n14 k15), (8, .int .i64 s2239.2), (9, .int .i64 s2613)]) (fun s2613 u2614 => [ownE 3 1 encI u7.1 u7.2.1 u7.2.2 r6.1, ownE 4 1 encB A13 n14 k15 (List.set s2239.1 (Int.toNat (ix r6.1 s2239.2)) true)]) () ?_ ?_ ?_
              · exact (sub_cons (by kernel_rfl) rfl (sub_cons (by kernel_rfl) rfl (sub_cons (by kernel_rfl) rfl (sub_cons (by kernel_rfl) rfl (sub_cons (by kernel_rfl) rfl (sub_cons (by kernel_rfl) rfl sub_nil))))))
              · exact hsub [0, 1] (by kernel_rfl) rfl
              intro s2613 u2614
              refine cm_seq ?_
              refine cm_seq ?_
              refine cm_region ?_
              refine lm_val 81 (by kernel_rfl) (fun w1 c1 => (op_move (v := .int .i64 _) rfl)) ?_
              refine lm_val 82 (by kernel_rfl) (fun w1 c1 => (op_move (v := .int .i64 _) rfl)) ?_
              refine lm_val 83 (by kernel_rfl) (fun w1 c1 => (op_lss rfl rfl)) ?_
              refine lm_nil ?_
              refine xm_next ?_
              refine cm_cond (by kernel_rfl) rfl (fun h2615 => ?_) (fun h2615 => ?_)
              · skip
                refine cm_skip ?_
                refine xm_next ?_
                refine cm_seq ?_
                refine cm_block ?_
                refine cm_seq ?_
                refine cm_ck (fun h2616 => ?_)
                refine cm_ck (fun h2617 => ?_)
                refine cm_ck (fun h2618 => ?_)
                refine cm_ck (fun h2619 => ?_)
                refine cm_held (ξ := Nat × Nat) (fun u2650 => [(0, .slice A_p0 n_p0 c_p0), (1, .int .i64 p1), (5, .slice u7.1 u7.2.1 u7.2.2), (7, .slice A13 n14 k15), (8, .int .i64 s2239.2), (9, .int .i64 s2613), (10, .pointer (some ⟨u2650.1, 0, none⟩)), (11, .pointer (some ⟨u2650.2, 0, none⟩))]) (fun u2650 => [ownE 3 1 encI u7.1 u7.2.1 u7.2.2 r6.1, ownE 4 1 encB A13 n14 k15 (List.set s2239.1 (Int.toNat (ix r6.1 s2239.2)) true), blkE u2650.1 47 [.int .i64 ((ix p0 (ix r6.1 s2613)).ID), .int .i64 ((ix p0 (ix r6.1 s2613)).Container), .int .i64 ((ix p0 (ix r6.1 s2613)).Vehicle), .int .i64 ((ix p0 (ix r6.1 s2613)).At), .int .i64 ((ix p0 (ix r6.1 s2613)).Mass.Lo), .int .i64 ((ix p0 (ix r6.1 s2613)).Mass.Hi), .bool ((ix p0 (ix r6.1 s2613)).Void)], blkE u2650.2 47 [.int .i64 ((ix p0 (ix r6.1 s2239.2)).ID), .int .i64 ((ix p0 (ix r6.1 s2239.2)).Container), .int .i64 ((ix p0 (ix r6.1 s2239.2)).Vehicle), .int .i64 ((ix p0 (ix r6.1 s2239.2)).At), .int .i64 ((ix p0 (ix r6.1 s2239.2)).Mass.Lo), .int .i64 ((ix p0 (ix r6.1 s2239.2)).Mass.Hi), .bool ((ix p0 (ix r6.1 s2239.2)).Void)]]) [ownE 3 1 encI u7.1 u7.2.1 u7.2.2 r6.1, ownE 4 1 encB A13 n14 k15 (List.set s2239.1 (Int.toNat (ix r6.1 s2239.2)) true)] 18 (by kernel_rfl) (by rfl) (hsub [0, 1] (by kernel_rfl) (by rfl)) ?_ ?_
                · intro w2652 c2653
                  refine wh_take 0 86 rfl (by kernel_rfl) (by kernel_rfl) (fun w2 c2 => (op_move (v := .slice _ _ _) rfl)) (hsub [0, 1] (by kernel_rfl) rfl _ c2653) ?_
                  refine wh_take 1 87 rfl (by kernel_rfl) (by kernel_rfl) (fun w2 c2 => (op_move (v := .slice _ _ _) rfl)) (hsub [0, 1] (by kernel_rfl) rfl _ c2653) ?_
                  refine wh_take 2 88 rfl (by kernel_rfl) (by kernel_rfl) (fun w2 c2 => (op_move (v := .int .i64 _) rfl)) (hsub [0, 1] (by kernel_rfl) rfl _ c2653) ?_
                  refine wh_take 3 89 rfl (by kernel_rfl) (by kernel_rfl) (fun w2 c2 => (op_indexA 1 rfl rfl (by kernel_rfl) ((c2.own 0 rfl encI_len).addr h2616.1 h2616.2) (c2.ownZ 0 rfl).2.2 h2616.1 h2616.2)) (hsub [0, 1] (by kernel_rfl) rfl _ c2653) ?_
                  refine wh_take 4 90 rfl (by kernel_rfl) (by kernel_rfl) (fun w2 c2 => (op_load (v := .int .i64 (ix r6.1 s2613)) rfl (by kernel_rfl) ((c2.own 0 rfl encI_len).cell0 h2616.1 h2616.2 rfl))) (hsub [0, 1] (by kernel_rfl) rfl _ c2653) ?_
                  refine wh_take 5 91 rfl (by kernel_rfl) (by kernel_rfl) (fun w2 c2 => (op_indexA 7 rfl rfl (by kernel_rfl) ((hr_p0.old c2).addr h2617.1 h2617.2) hz_p0.2.2 h2617.1 h2617.2)) (hsub [0, 1] (by kernel_rfl) rfl _ c2653) ?_
                  refine wh_take 6 92 rfl (by kernel_rfl) (by kernel_rfl) (fun w2 c2 => (op_loadR [.int .i64 ((ix p0 (ix r6.1 s2613)).ID), .int .i64 ((ix p0 (ix r6.1 s2613)).Container), .int .i64 ((ix p0 (ix r6.1 s2613)).Vehicle), .int .i64 ((ix p0 (ix r6.1 s2613)).At), .int .i64 ((ix p0 (ix r6.1 s2613)).Mass.Lo), .int .i64 ((ix p0 (ix r6.1 s2613)).Mass.Hi), .bool ((ix p0 (ix r6.1 s2613)).Void)] rfl (by kernel_rfl) ((hr_p0.old c2).row h2617.1 h2617.2))) (hsub [0, 1] (by kernel_rfl) rfl _ c2653) ?_
                  refine wh_take 7 93 rfl (by kernel_rfl) (by kernel_rfl) (fun w2 c2 => (op_move (v := .slice _ _ _) rfl)) (hsub [0, 1] (by kernel_rfl) rfl _ c2653) ?_
                  refine wh_take 8 94 rfl (by kernel_rfl) (by kernel_rfl) (fun w2 c2 => (op_move (v := .slice _ _ _) rfl)) (hsub [0, 1] (by kernel_rfl) rfl _ c2653) ?_
                  refine wh_take 9 95 rfl (by kernel_rfl) (by kernel_rfl) (fun w2 c2 => (op_move (v := .int .i64 _) rfl)) (hsub [0, 1] (by kernel_rfl) rfl _ c2653) ?_
                  refine wh_take 10 96 rfl (by kernel_rfl) (by kernel_rfl) (fun w2 c2 => (op_indexA 1 rfl rfl (by kernel_rfl) ((c2.own 0 rfl encI_len).addr h2618.1 h2618.2) (c2.ownZ 0 rfl).2.2 h2618.1 h2618.2)) (hsub [0, 1] (by kernel_rfl) rfl _ c2653) ?_
                  refine wh_take 11 97 rfl (by kernel_rfl) (by kernel_rfl) (fun w2 c2 => (op_load (v := .int .i64 (ix r6.1 s2239.2)) rfl (by kernel_rfl) ((c2.own 0 rfl encI_len).cell0 h2618.1 h2618.2 rfl))) (hsub [0, 1] (by kernel_rfl) rfl _ c2653) ?_
                  refine wh_take 12 98 rfl (by kernel_rfl) (by kernel_rfl) (fun w2 c2 => (op_indexA 7 rfl rfl (by kernel_rfl) ((hr_p0.old c2).addr h2619.1 h2619.2) hz_p0.2.2 h2619.1 h2619.2)) (hsub [0, 1] (by kernel_rfl) rfl _ c2653) ?_
                  refine wh_take 13 99 rfl (by kernel_rfl) (by kernel_rfl) (fun w2 c2 => (op_loadR [.int .i64 ((ix p0 (ix r6.1 s2239.2)).ID), .int .i64 ((ix p0 (ix r6.1 s2239.2)).Container), .int .i64 ((ix p0 (ix r6.1 s2239.2)).Vehicle), .int .i64 ((ix p0 (ix r6.1 s2239.2)).At), .int .i64 ((ix p0 (ix r6.1 s2239.2)).Mass.Lo), .int .i64 ((ix p0 (ix r6.1 s2239.2)).Mass.Hi), .bool ((ix p0 (ix r6.1 s2239.2)).Void)] rfl (by kernel_rfl) ((hr_p0.old c2).row h2619.1 h2619.2))) (hsub [0, 1] (by kernel_rfl) rfl _ c2653) ?_
                  refine wh_ready [14, 15] (by kernel_rfl) rfl ⟨?_, ?_, trivial⟩
                  · skip
                    refine ws_alloc 10 [.int .i64 0, .int .i64 0, .int .i64 0, .int .i64 0, .int .i64 0, .int .i64 0, .bool false] (v := .agg #[.int .i64 0, .int .i64 0, .int .i64 0, .int .i64 0, .int .i64 0, .int .i64 0, .bool false]) rfl (by kernel_rfl) (by kernel_rfl) rfl c2653 ?_
                    intro b2654 w2655 c2656
                    refine ⟨(hsub [1, 2] (by kernel_rfl) rfl _ c2656), ?_⟩
                    refine wh_ready [15] (by kernel_rfl) rfl ⟨?_, trivial⟩
                    refine ws_alloc 11 [.int .i64 0, .int .i64 0, .int .i64 0, .int .i64 0, .int .i64 0, .int .i64 0, .bool false] (v := .agg #[.int .i64 0, .int .i64 0, .int .i64 0, .int .i64 0, .int .i64 0, .int .i64 0, .bool false]) rfl (by kernel_rfl) (by kernel_rfl) rfl c2656 ?_
                    intro b2657 w2658 c2659
                    refine ⟨(hsub [2, 3] (by kernel_rfl) rfl _ c2659), ?_⟩
                    refine wh_ready [16] (by kernel_rfl) rfl ⟨?_, trivial⟩
                    refine ws_storeA 1 [.int .i64 _, .int .i64 _, .int .i64 _, .int .i64 _, .int .i64 _, .int .i64 _, .bool _] [_, _, _, _, _, _, _] rfl (by kernel_rfl) rfl rfl (by kernel_rfl) rfl rfl (by kernel_rfl) rfl (H' := [_, blkE _ _ [_, _, _, _, _, _, _], _, _]) rfl c2659 ?_
                    intro w2660 c2661
                    refine ⟨(hsub [2, 3] (by kernel_rfl) rfl _ c2661), ?_⟩
                    refine wh_ready [17] (by kernel_rfl) rfl ⟨?_, trivial⟩
                    refine ws_storeA 0 [.int .i64 _, .int .i64 _, .int .i64 _, .int .i64 _, .int .i64 _, .int .i64 _, .bool _] [_, _, _, _, _, _, _] rfl (by kernel_rfl) rfl rfl (by kernel_rfl) rfl rfl (by kernel_rfl) rfl (H' := [blkE _ _ [_, _, _, _, _, _, _], _, _, _]) rfl c2661 ?_
                    intro w2662 c2663
                    refine ⟨(hsub [2, 3] (by kernel_rfl) rfl _ c2663), ?_⟩
                    exact wh_done (b2654, b2657) (by kernel_rfl) (sub_cons (by kernel_rfl) rfl (sub_cons (by kernel_rfl) rfl (sub_cons (by kernel_rfl) rfl (sub_cons (by kernel_rfl) rfl (sub_cons (by kernel_rfl) rfl (sub_cons (by kernel_rfl) rfl (sub_cons (by kernel_rfl) rfl (sub_cons (by kernel_rfl) rfl sub_nil)))))))) (hsub [2, 3, 1, 0] (by kernel_rfl) rfl _ c2663)
                  · skip
                    refine ws_alloc 11 [.int .i64 0, .int .i64 0, .int .i64 0, .int .i64 0, .int .i64 0, .int .i64 0, .bool false] (v := .agg #[.int .i64 0, .int .i64 0, .int .i64 0, .int .i64 0, .int .i64 0, .int .i64 0, .bool false]) rfl (by kernel_rfl) (by kernel_rfl) rfl c2653 ?_
                    intro b2664 w2665 c2666
                    refine ⟨(hsub [1, 2] (by kernel_rfl) rfl _ c2666), ?_⟩
                    refine wh_ready [14] (by kernel_rfl) rfl ⟨?_, trivial⟩
                    refine ws_alloc 10 [.int .i64 0, .int .i64 0, .int .i64 0, .int .i64 0, .int .i64 0, .int .i64 0, .bool false] (v := .agg #[.int .i64 0, .int .i64 0, .int .i64 0, .int .i64 0, .int .i64 0, .int .i64 0, .bool false]) rfl (by kernel_rfl) (by kernel_rfl) rfl c2666 ?_
                    intro b2667 w2668 c2669
                    refine ⟨(hsub [2, 3] (by kernel_rfl) rfl _ c2669), ?_⟩
                    refine wh_ready [16] (by kernel_rfl) rfl ⟨?_, trivial⟩
                    refine ws_storeA 0 [.int .i64 _, .int .i64 _, .int .i64 _, .int .i64 _, .int .i64 _, .int .i64 _, .bool _] [_, _, _, _, _, _, _] rfl (by kernel_rfl) rfl rfl (by kernel_rfl) rfl rfl (by kernel_rfl) rfl (H' := [blkE _ _ [_, _, _, _, _, _, _], _, _, _]) rfl c2669 ?_
                    intro w2670 c2671
                    refine ⟨(hsub [2, 3] (by kernel_rfl) rfl _ c2671), ?_⟩
                    refine wh_ready [17] (by kernel_rfl) rfl ⟨?_, trivial⟩
                    refine ws_storeA 1 [.int .i64 _, .int .i64 _, .int .i64 _, .int .i64 _, .int .i64 _, .int .i64 _, .bool _] [_, _, _, _, _, _, _] rfl (by kernel_rfl) rfl rfl (by kernel_rfl) rfl rfl (by kernel_rfl) rfl (H' := [_, blkE _ _ [_, _, _, _, _, _, _], _, _]) rfl c2671 ?_
                    intro w2672 c2673
                    refine ⟨(hsub [2, 3] (by kernel_rfl) rfl _ c2673), ?_⟩
                    exact wh_done (b2667, b2664) (by kernel_rfl) (sub_cons (by kernel_rfl) rfl (sub_cons (by kernel_rfl) rfl (sub_cons (by kernel_rfl) rfl (sub_cons (by kernel_rfl) rfl (sub_cons (by kernel_rfl) rfl (sub_cons (by kernel_rfl) rfl (sub_cons (by kernel_rfl) rfl (sub_cons (by kernel_rfl) rfl sub_nil)))))))) (hsub [2, 3, 0, 1] (by kernel_rfl) rfl _ c2673)
                intro u2650
                refine xm_next ?_
                refine cm_seq ?_
                refine cm_ck (fun h2674 => ?_)
                refine cm_cutE [(134, .bool (((decide ((ix p0 (ix r6.1 s2239.2)).At < (ix p0 (ix r6.1 s2613)).At)) || ((decide ((ix p0 (ix r6.1 s2613)).At = (ix p0 (ix r6.1 s2239.2)).At)) && (decide ((ix p0 (ix r6.1 s2239.2)).ID ≤ (ix p0 (ix r6.1 s2613)).ID)))) || ((decide ((ix p0 (ix r6.1 s2613)).Container = (ix p0 (ix r6.1 s2239.2)).Container)) && (decide ((((ix p0 (ix r6.1 s2239.2)).At) - ((ix p0 (ix r6.1 s2613)).At)) ≤ p1)))))] ?_ ?_
                · skip
                  refine wq_val 100 (by kernel_rfl) (fun w1 c1 => (op_fieldL (m := 3) (k := 3) rfl (by kernel_rfl) rfl)) ?_
                  refine wq_val 101 (by kernel_rfl) (fun w1 c1 => (op_load rfl (by kernel_rfl) (c1.cell 2 (u := .int .i64 _) rfl rfl))) ?_
                  refine wq_val 102 (by kernel_rfl) (fun w1 c1 => (op_fieldL (m := 3) (k := 3) rfl (by kernel_rfl) rfl)) ?_
                  refine wq_val 103 (by kernel_rfl) (fun w1 c1 => (op_load rfl (by kernel_rfl) (c1.cell 3 (u := .int .i64 _) rfl rfl))) ?_
                  refine wq_dec 104 (by kernel_rfl) (fun w1 c1 => (op_gtr rfl rfl)) (fun h2675 => ?_) (fun h2675 => ?_)
                  · skip
                    refine wq_val 105 (by kernel_rfl) (fun w1 c1 => (op_move (v := .bool true) rfl)) ?_
                    refine wq_skip 106 (by kernel_rfl) ?_
                    refine wq_skip 107 (by kernel_rfl) ?_
                    refine wq_skip 108 (by kernel_rfl) ?_
                    refine wq_skip 109 (by kernel_rfl) ?_
                    refine wq_skip 110 (by kernel_rfl) ?_
                    refine wq_skip 111 (by kernel_rfl) ?_
                    refine wq_skip 112 (by kernel_rfl) ?_
                    refine wq_skip 113 (by kernel_rfl) ?_
                    refine wq_skip 114 (by kernel_rfl) ?_
                    refine wq_skip 115 (by kernel_rfl) ?_
                    refine wq_skip 116 (by kernel_rfl) ?_
                    refine wq_skip 117 (by kernel_rfl) ?_
                    refine wq_val 118 (by kernel_rfl) (fun w1 c1 => (op_pick_t (v := .bool true) rfl rfl)) ?_
                    refine wq_val 119 (by kernel_rfl) (fun w1 c1 => (op_move (v := .bool true) rfl)) ?_
                    refine wq_skip 120 (by kernel_rfl) ?_
                    refine wq_skip 121 (by kernel_rfl) ?_
                    refine wq_skip 122 (by kernel_rfl) ?_
                    refine wq_skip 123 (by kernel_rfl) ?_
                    refine wq_skip 124 (by kernel_rfl) ?_
                    refine wq_skip 125 (by kernel_rfl) ?_
                    refine wq_skip 126 (by kernel_rfl) ?_
                    refine wq_skip 127 (by kernel_rfl) ?_
                    refine wq_skip 128 (by kernel_rfl) ?_
                    refine wq_skip 129 (by kernel_rfl) ?_
                    refine wq_skip 130 (by kernel_rfl) ?_
                    refine wq_skip 131 (by kernel_rfl) ?_
                    refine wq_skip 132 (by kernel_rfl) ?_
                    refine wq_skip 133 (by kernel_rfl) ?_
                    refine wq_val 134 (by kernel_rfl) (fun w1 c1 => (op_pick_t (v := .bool true) rfl rfl)) ?_
                    exact leaf_q (sub_out 35 _ rfl (by kernel_rfl) ⟨(congrArg Value.bool (by rw [decide_eq_true h2675] <;> rfl)), trivial⟩)
                  · skip
                    refine wq_val 105 (by kernel_rfl) (fun w1 c1 => (op_move (v := .bool false) rfl)) ?_
                    refine wq_val 106 (by kernel_rfl) (fun w1 c1 => (op_fieldL (m := 3) (k := 3) rfl (by kernel_rfl) rfl)) ?_
                    refine wq_val 107 (by kernel_rfl) (fun w1 c1 => (op_load rfl (by kernel_rfl) (c1.cell 2 (u := .int .i64 _) rfl rfl))) ?_
                    refine wq_val 108 (by kernel_rfl) (fun w1 c1 => (op_fieldL (m := 3) (k := 3) rfl (by kernel_rfl) rfl)) ?_
                    refine wq_val 109 (by kernel_rfl) (fun w1 c1 => (op_load rfl (by kernel_rfl) (c1.cell 3 (u := .int .i64 _) rfl rfl))) ?_
                    refine wq_dec 110 (by kernel_rfl) (fun w1 c1 => (op_eql rfl rfl)) (fun h2676 => ?_) (fun h2676 => ?_)
                    · skip
                      refine wq_val 111 (by kernel_rfl) (fun w1 c1 => (op_move (v := .bool true) rfl)) ?_
                      refine wq_val 112 (by kernel_rfl) (fun w1 c1 => (op_fieldL (m := 0) (k := 0) rfl (by kernel_rfl) rfl)) ?_
                      refine wq_val 113 (by kernel_rfl) (fun w1 c1 => (op_load rfl (by kernel_rfl) (c1.cell 2 (u := .int .i64 _) rfl rfl))) ?_
                      refine wq_val 114 (by kernel_rfl) (fun w1 c1 => (op_fieldL (m := 0) (k := 0) rfl (by kernel_rfl) rfl)) ?_
                      refine wq_val 115 (by kernel_rfl) (fun w1 c1 => (op_load rfl (by kernel_rfl) (c1.cell 3 (u := .int .i64 _) rfl rfl))) ?_
                      refine wq_dec 116 (by kernel_rfl) (fun w1 c1 => (op_geq rfl rfl)) (fun h2677 => ?_) (fun h2677 => ?_)
                      · skip
                        refine wq_val 117 (by kernel_rfl) (fun w1 c1 => (op_pick_t (v := .bool true) rfl rfl)) ?_
                        refine wq_val 118 (by kernel_rfl) (fun w1 c1 => (op_pick_f (v := .bool true) rfl rfl)) ?_
                        refine wq_val 119 (by kernel_rfl) (fun w1 c1 => (op_move (v := .bool true) rfl)) ?_
                        refine wq_skip 120 (by kernel_rfl) ?_
                        refine wq_skip 121 (by kernel_rfl) ?_
                        refine wq_skip 122 (by kernel_rfl) ?_
                        refine wq_skip 123 (by kernel_rfl) ?_
                        refine wq_skip 124 (by kernel_rfl) ?_
                        refine wq_skip 125 (by kernel_rfl) ?_
                        refine wq_skip 126 (by kernel_rfl) ?_
                        refine wq_skip 127 (by kernel_rfl) ?_
                        refine wq_skip 128 (by kernel_rfl) ?_
                        refine wq_skip 129 (by kernel_rfl) ?_
                        refine wq_skip 130 (by kernel_rfl) ?_
                        refine wq_skip 131 (by kernel_rfl) ?_
                        refine wq_skip 132 (by kernel_rfl) ?_
                        refine wq_skip 133 (by kernel_rfl) ?_
                        refine wq_val 134 (by kernel_rfl) (fun w1 c1 => (op_pick_t (v := .bool true) rfl rfl)) ?_
                        exact leaf_q (sub_out 35 _ rfl (by kernel_rfl) ⟨(congrArg Value.bool (by rw [decide_eq_false h2675, decide_eq_true h2676, decide_eq_true h2677] <;> rfl)), trivial⟩)
                      · skip
                        refine wq_val 117 (by kernel_rfl) (fun w1 c1 => (op_pick_t (v := .bool false) rfl rfl)) ?_
                        refine wq_val 118 (by kernel_rfl) (fun w1 c1 => (op_pick_f (v := .bool false) rfl rfl)) ?_
                        refine wq_val 119 (by kernel_rfl) (fun w1 c1 => (op_move (v := .bool false) rfl)) ?_
                        refine wq_val 120 (by kernel_rfl) (fun w1 c1 => (op_fieldL (m := 1) (k := 1) rfl (by kernel_rfl) rfl)) ?_
                        refine wq_val 121 (by kernel_rfl) (fun w1 c1 => (op_load rfl (by kernel_rfl) (c1.cell 2 (u := .int .i64 _) rfl rfl))) ?_
                        refine wq_val 122 (by kernel_rfl) (fun w1 c1 => (op_fieldL (m := 1) (k := 1) rfl (by kernel_rfl) rfl)) ?_
                        refine wq_val 123 (by kernel_rfl) (fun w1 c1 => (op_load rfl (by kernel_rfl) (c1.cell 3 (u := .int .i64 _) rfl rfl))) ?_
                        refine wq_dec 124 (by kernel_rfl) (fun w1 c1 => (op_eql rfl rfl)) (fun h2678 => ?_) (fun h2678 => ?_)
                        · skip
                          refine wq_val 125 (by kernel_rfl) (fun w1 c1 => (op_move (v := .bool true) rfl)) ?_
                          refine wq_val 126 (by kernel_rfl) (fun w1 c1 => (op_fieldL (m := 3) (k := 3) rfl (by kernel_rfl) rfl)) ?_
                          refine wq_val 127 (by kernel_rfl) (fun w1 c1 => (op_load rfl (by kernel_rfl) (c1.cell 3 (u := .int .i64 _) rfl rfl))) ?_
                          refine wq_val 128 (by kernel_rfl) (fun w1 c1 => (op_fieldL (m := 3) (k := 3) rfl (by kernel_rfl) rfl)) ?_
                          refine wq_val 129 (by kernel_rfl) (fun w1 c1 => (op_load rfl (by kernel_rfl) (c1.cell 2 (u := .int .i64 _) rfl rfl))) ?_
                          refine wq_val 130 (by kernel_rfl) (fun w1 c1 => (op_sub rfl rfl (h2674 (by rw [decide_eq_false h2675, decide_eq_true h2676, decide_eq_false h2677, decide_eq_true h2678] <;> rfl)))) ?_
                          refine wq_val 131 (by kernel_rfl) (fun w1 c1 => (op_move (v := .int .i64 _) rfl)) ?_
                          refine wq_val 132 (by kernel_rfl) (fun w1 c1 => (op_leq rfl rfl)) ?_
                          refine wq_val 133 (by kernel_rfl) (fun w1 c1 => (op_pick_t (v := .bool _) rfl rfl)) ?_
                          refine wq_val 134 (by kernel_rfl) (fun w1 c1 => (op_pick_f (v := .bool _) rfl rfl)) ?_
                          exact leaf_q (sub_out 35 _ rfl (by kernel_rfl) ⟨(congrArg Value.bool (by rw [decide_eq_false h2675, decide_eq_true h2676, decide_eq_false h2677, decide_eq_true h2678] <;> rfl)), trivial⟩)
                        · skip
                          refine wq_val 125 (by kernel_rfl) (fun w1 c1 => (op_move (v := .bool false) rfl)) ?_
                          refine wq_skip 126 (by kernel_rfl) ?_
                          refine wq_skip 127 (by kernel_rfl) ?_
                          refine wq_skip 128 (by kernel_rfl) ?_
                          refine wq_skip 129 (by kernel_rfl) ?_
                          refine wq_skip 130 (by kernel_rfl) ?_
                          refine wq_skip 131 (by kernel_rfl) ?_
                          refine wq_skip 132 (by kernel_rfl) ?_
                          refine wq_val 133 (by kernel_rfl) (fun w1 c1 => (op_pick_f (v := .bool false) rfl rfl)) ?_
                          refine wq_val 134 (by kernel_rfl) (fun w1 c1 => (op_pick_f (v := .bool false) rfl rfl)) ?_
                          exact leaf_q (sub_out 35 _ rfl (by kernel_rfl) ⟨(congrArg Value.bool (by rw [decide_eq_false h2675, decide_eq_true h2676, decide_eq_false h2677, decide_eq_false h2678] <;> rfl)), trivial⟩)
                    · skip
                      refine wq_val 111 (by kernel_rfl) (fun w1 c1 => (op_move (v := .bool false) rfl)) ?_
                      refine wq_skip 112 (by kernel_rfl) ?_
                      refine wq_skip 113 (by kernel_rfl) ?_
                      refine wq_skip 114 (by kernel_rfl) ?_
                      refine wq_skip 115 (by kernel_rfl) ?_
                      refine wq_skip 116 (by kernel_rfl) ?_
                      refine wq_val 117 (by kernel_rfl) (fun w1 c1 => (op_pick_f (v := .bool false) rfl rfl)) ?_
                      refine wq_val 118 (by kernel_rfl) (fun w1 c1 => (op_pick_f (v := .bool false) rfl rfl)) ?_
                      refine wq_val 119 (by kernel_rfl) (fun w1 c1 => (op_move (v := .bool false) rfl)) ?_
                      refine wq_val 120 (by kernel_rfl) (fun w1 c1 => (op_fieldL (m := 1) (k := 1) rfl (by kernel_rfl) rfl)) ?_
                      refine wq_val 121 (by kernel_rfl) (fun w1 c1 => (op_load rfl (by kernel_rfl) (c1.cell 2 (u := .int .i64 _) rfl rfl))) ?_
                      refine wq_val 122 (by kernel_rfl) (fun w1 c1 => (op_fieldL (m := 1) (k := 1) rfl (by kernel_rfl) rfl)) ?_
                      refine wq_val 123 (by kernel_rfl) (fun w1 c1 => (op_load rfl (by kernel_rfl) (c1.cell 3 (u := .int .i64 _) rfl rfl))) ?_
                      refine wq_dec 124 (by kernel_rfl) (fun w1 c1 => (op_eql rfl rfl)) (fun h2679 => ?_) (fun h2679 => ?_)
                      · skip
                        refine wq_val 125 (by kernel_rfl) (fun w1 c1 => (op_move (v := .bool true) rfl)) ?_
                        refine wq_val 126 (by kernel_rfl) (fun w1 c1 => (op_fieldL (m := 3) (k := 3) rfl (by kernel_rfl) rfl)) ?_
                        refine wq_val 127 (by kernel_rfl) (fun w1 c1 => (op_load rfl (by kernel_rfl) (c1.cell 3 (u := .int .i64 _) rfl rfl))) ?_
                        refine wq_val 128 (by kernel_rfl) (fun w1 c1 => (op_fieldL (m := 3) (k := 3) rfl (by kernel_rfl) rfl)) ?_
                        refine wq_val 129 (by kernel_rfl) (fun w1 c1 => (op_load rfl (by kernel_rfl) (c1.cell 2 (u := .int .i64 _) rfl rfl))) ?_
                        refine wq_val 130 (by kernel_rfl) (fun w1 c1 => (op_sub rfl rfl (h2674 (by rw [decide_eq_false h2675, decide_eq_false h2676, decide_eq_true h2679] <;> rfl)))) ?_
                        refine wq_val 131 (by kernel_rfl) (fun w1 c1 => (op_move (v := .int .i64 _) rfl)) ?_
                        refine wq_val 132 (by kernel_rfl) (fun w1 c1 => (op_leq rfl rfl)) ?_
                        refine wq_val 133 (by kernel_rfl) (fun w1 c1 => (op_pick_t (v := .bool _) rfl rfl)) ?_
                        refine wq_val 134 (by kernel_rfl) (fun w1 c1 => (op_pick_f (v := .bool _) rfl rfl)) ?_
                        exact leaf_q (sub_out 35 _ rfl (by kernel_rfl) ⟨(congrArg Value.bool (by rw [decide_eq_false h2675, decide_eq_false h2676, decide_eq_true h2679] <;> rfl)), trivial⟩)
                      · skip
                        refine wq_val 125 (by kernel_rfl) (fun w1 c1 => (op_move (v := .bool false) rfl)) ?_
                        refine wq_skip 126 (by kernel_rfl) ?_
                        refine wq_skip 127 (by kernel_rfl) ?_
                        refine wq_skip 128 (by kernel_rfl) ?_
                        refine wq_skip 129 (by kernel_rfl) ?_
                        refine wq_skip 130 (by kernel_rfl) ?_
                        refine wq_skip 131 (by kernel_rfl) ?_
                        refine wq_skip 132 (by kernel_rfl) ?_
                        refine wq_val 133 (by kernel_rfl) (fun w1 c1 => (op_pick_f (v := .bool false) rfl rfl)) ?_
                        refine wq_val 134 (by kernel_rfl) (fun w1 c1 => (op_pick_f (v := .bool false) rfl rfl)) ?_
                        exact leaf_q (sub_out 35 _ rfl (by kernel_rfl) ⟨(congrArg Value.bool (by rw [decide_eq_false h2675, decide_eq_false h2676, decide_eq_false h2679] <;> rfl)), trivial⟩)
                refine xm_next ?_
                refine cm_condB (by kernel_rfl) rfl (fun h2680 => ?_) (fun h2680 => ?_)
                · skip
                  refine cm_seq ?_
                  refine cm_region ?_
                  refine lm_val 4 (by kernel_rfl) (fun w1 c1 => (op_assign (v := .bool false) rfl)) ?_
                  refine lm_nil ?_
                  refine xm_next ?_
                  refine cm_ret ?_
                  refine xm_inR ?_
                  refine xm_thenR ?_
                  refine xm_lret ?_
                  refine xm_inR ?_
                  refine xm_inR ?_
                  refine xm_lret ?_
                  refine xm_lret ?_
                  refine xm_inR ?_
                  refine xm_lret ?_
                  exact xm_retT rfl (by kernel_rfl) (show _ = Value.bool false from rfl) fun w1 c1 => ⟨(), rfl, hsub [] (by kernel_rfl) rfl w1 c1⟩
                · skip
                  refine cm_skip ?_
                  refine xm_inN ?_
                  refine xm_next ?_
                  refine cm_region ?_
                  refine lm_val 84 (by kernel_rfl) (fun w1 c1 => (op_move (v := .int .i64 _) rfl)) ?_
                  refine lm_ck (fun h2681 => ?_)
                  refine lm_val 85 (by kernel_rfl) (fun w1 c1 => (op_add rfl rfl h2681)) ?_
                  refine lm_val 9 (by kernel_rfl) (fun w1 c1 => (op_assign (v := .int .i64 _) rfl)) ?_
                  refine lm_nil ?_
                  exact xm_lnext () (sub_cons (by kernel_rfl) rfl (sub_cons (by kernel_rfl) rfl (sub_cons (by kernel_rfl) rfl (sub_cons (by kernel_rfl) rfl (sub_cons (by kernel_rfl) rfl (sub_cons (by kernel_rfl) rfl sub_nil)))))) (hsub [0, 1] (by kernel_rfl) rfl)
              · skip
                refine cm_exit ?_
                refine xm_thenE ?_
                refine xm_lexit ?_
                refine xm_here ?_
                refine xm_inN ?_
                exact xm_lnext () (sub_cons (by kernel_rfl) rfl (sub_cons (by kernel_rfl) rfl (sub_cons (by kernel_rfl) rfl (sub_cons (by kernel_rfl) rfl (sub_cons (by kernel_rfl) rfl sub_nil))))) (hsub [0, 1] (by kernel_rfl) rfl)
          intro s2461 u2462
          refine cm_region ?_
          refine lm_val 40 (by kernel_rfl) (fun w1 c1 => (op_move (v := .int .i64 _) rfl)) ?_
          refine lm_ck (fun h2682 => ?_)
          refine lm_val 41 (by kernel_rfl) (fun w1 c1 => (op_add rfl rfl h2682)) ?_
          refine lm_val 8 (by kernel_rfl) (fun w1 c1 => (op_assign (v := .int .i64 _) rfl)) ?_
          refine lm_nil ?_
          exact xm_lnext () (sub_cons (by kernel_rfl) rfl (sub_cons (by kernel_rfl) rfl (sub_cons (by kernel_rfl) rfl (sub_cons (by kernel_rfl) rfl (sub_cons (by kernel_rfl) rfl sub_nil))))) (hsub [0, 1] (by kernel_rfl) rfl)
        · skip
          refine cm_exit ?_
          refine xm_thenE ?_
          refine xm_lexit ?_
          refine xm_here ?_
          exact xm_lnext () (sub_cons (by kernel_rfl) rfl (sub_cons (by kernel_rfl) rfl (sub_cons (by kernel_rfl) rfl (sub_cons (by kernel_rfl) rfl sub_nil)))) (hsub [0, 1] (by kernel_rfl) rfl)
      intro s1349 u1350
      refine cm_join (σ := Unit) (ξ := Unit) (fun s2965 u2966 => []) (fun s2965 u2966 => []) ?_ ?_
      · skip
        refine cm_seq ?_
        refine cm_region ?_
        refine lm_val 12 (by kernel_rfl) (fun w1 c1 => (op_assign (v := .int .i64 _) rfl)) ?_
        refine lm_nil ?_
        refine xm_next ?_
        refine cm_block ?_
        refine cm_loop (σ := Int) (ξ := Unit) (fun s3155 u3156 => [(0, .slice A_p0 n_p0 c_p0), (1, .int .i64 p1), (5, .slice u7.1 u7.2.1 u7.2.2), (7, .slice A13 n14 k15), (12, .int .i64 s3155)]) (fun s3155 u3156 => [ownE 3 1 encI u7.1 u7.2.1 u7.2.2 r6.1, ownE 4 1 encB A13 n14 k15 s1349]) () ?_ ?_ ?_
        · exact (sub_cons (by kernel_rfl) rfl (sub_cons (by kernel_rfl) rfl (sub_cons (by kernel_rfl) rfl (sub_cons (by kernel_rfl) rfl (sub_cons (by kernel_rfl) rfl sub_nil)))))
        · exact hsub [0, 1] (by kernel_rfl) rfl
        intro s3155 u3156
        refine cm_seq ?_
        refine cm_seq ?_
        refine cm_region ?_
        refine lm_val 135 (by kernel_rfl) (fun w1 c1 => (op_move (v := .int .i64 _) rfl)) ?_
        refine lm_val 136 (by kernel_rfl) (fun w1 c1 => (op_move (v := .slice _ _ _) rfl)) ?_
        refine lm_val 137 (by kernel_rfl) (fun w1 c1 => (op_lenN rfl (by kernel_rfl) hz_p0.2.2)) ?_
        refine lm_val 138 (by kernel_rfl) (fun w1 c1 => (op_lss rfl rfl)) ?_
        refine lm_nil ?_
        refine xm_next ?_
        refine cm_cond (by kernel_rfl) rfl (fun h3157 => ?_) (fun h3157 => ?_)
        · skip
          refine cm_skip ?_
          refine xm_next ?_
          refine cm_seq ?_
          refine cm_block ?_
          refine cm_seq ?_
          refine cm_ck (fun h3158 => ?_)
          refine cm_ck (fun h3159 => ?_)
          refine cm_cutE [(13, .bool ((ix s1349 s3155) || ((ix p0 s3155).Void)))] ?_ ?_
          · skip
            refine wq_val 141 (by kernel_rfl) (fun w1 c1 => (op_move (v := .slice _ _ _) rfl)) ?_
            refine wq_val 142 (by kernel_rfl) (fun w1 c1 => (op_move (v := .int .i64 _) rfl)) ?_
            refine wq_val 143 (by kernel_rfl) (fun w1 c1 => (op_indexA 1 rfl rfl (by kernel_rfl) ((c1.own 1 rfl encB_len).addr h3158.1 h3158.2) (c1.ownZ 1 rfl).2.2 h3158.1 h3158.2)) ?_
            refine wq_bool 144 (by kernel_rfl) (fun w1 c1 => (op_load (v := .bool (ix s1349 s3155)) rfl (by kernel_rfl) ((c1.own 1 rfl encB_len).cell0 h3158.1 h3158.2 rfl))) (fun h3160 => ?_) (fun h3160 => ?_)
            · skip
              refine wq_val 145 (by kernel_rfl) (fun w1 c1 => (op_move (v := .bool true) rfl)) ?_
              refine wq_skip 146 (by kernel_rfl) ?_
              refine wq_skip 147 (by kernel_rfl) ?_
              refine wq_skip 148 (by kernel_rfl) ?_
              refine wq_skip 149 (by kernel_rfl) ?_
              refine wq_skip 150 (by kernel_rfl) ?_
              refine wq_val 151 (by kernel_rfl) (fun w1 c1 => (op_pick_t (v := .bool true) rfl rfl)) ?_
              refine wq_val 13 (by kernel_rfl) (fun w1 c1 => (op_assign (v := .bool true) rfl)) ?_
              exact leaf_q (sub_out 12 _ rfl (by kernel_rfl) ⟨(congrArg Value.bool (by rw [h3160] <;> rfl)), trivial⟩)
            · skip
              refine wq_val 145 (by kernel_rfl) (fun w1 c1 => (op_move (v := .bool false) rfl)) ?_
              refine wq_val 146 (by kernel_rfl) (fun w1 c1 => (op_move (v := .slice _ _ _) rfl)) ?_
              refine wq_val 147 (by kernel_rfl) (fun w1 c1 => (op_move (v := .int .i64 _) rfl)) ?_
              refine wq_val 148 (by kernel_rfl) (fun w1 c1 => (op_indexA 7 rfl rfl (by kernel_rfl) ((hr_p0.old c1).addr (h3159 (by rw [h3160] <;> rfl)).1 (h3159 (by rw [h3160] <;> rfl)).2) hz_p0.2.2 (h3159 (by rw [h3160] <;> rfl)).1 (h3159 (by rw [h3160] <;> rfl)).2)) ?_
              refine wq_val 149 (by kernel_rfl) (fun w1 c1 => (op_field (m := 6) rfl (by kernel_rfl))) ?_
              refine wq_val 150 (by kernel_rfl) (fun w1 c1 => (op_load (v := .bool ((ix p0 s3155).Void)) rfl (by kernel_rfl) ((hr_p0.old c1).cell (j := 6) (h3159 (by rw [h3160] <;> rfl)).1 (h3159 (by rw [h3160] <;> rfl)).2 rfl))) ?_
              refine wq_val 151 (by kernel_rfl) (fun w1 c1 => (op_pick_f (v := .bool _) rfl rfl)) ?_
              refine wq_val 13 (by kernel_rfl) (fun w1 c1 => (op_assign (v := .bool _) rfl)) ?_
              exact leaf_q (sub_out 12 _ rfl (by kernel_rfl) ⟨(congrArg Value.bool (by rw [h3160] <;> rfl)), trivial⟩)
          refine xm_next ?_
          refine cm_join (σ := Bool) (ξ := Unit) (fun s3203 u3204 => [(0, .slice A_p0 n_p0 c_p0), (1, .int .i64 p1), (5, .slice u7.1 u7.2.1 u7.2.2), (7, .slice A13 n14 k15), (12, .int .i64 s3155), (13, .bool s3203)]) (fun s3203 u3204 => [ownE 3 1 encI u7.1 u7.2.1 u7.2.2 r6.1, ownE 4 1 encB A13 n14 k15 s1349]) ?_ ?_
          · skip
            refine cm_seq ?_
            refine cm_region ?_
            refine lm_val 14 (by kernel_rfl) (fun w1 c1 => (op_assign (v := .int .i64 _) rfl)) ?_
            refine lm_nil ?_
            refine xm_next ?_
            refine cm_block ?_
            refine cm_loop (σ := Bool × Int) (ξ := Unit) (fun s3233 u3234 => [(0, .slice A_p0 n_p0 c_p0), (1, .int .i64 p1), (5, .slice u7.1 u7.2.1 u7.2.2), (7, .slice A13 n14 k15), (12, .int .i64 s3155), (13, .bool s3233.1), (14, .int .i64 s3233.2)]) (fun s3233 u3234 => [ownE 3 1 encI u7.1 u7.2.1 u7.2.2 r6.1, ownE 4 1 encB A13 n14 k15 s1349]) () ?_ ?_ ?_
            · exact (sub_cons (by kernel_rfl) rfl (sub_cons (by kernel_rfl) rfl (sub_cons (by kernel_rfl) rfl (sub_cons (by kernel_rfl) rfl (sub_cons (by kernel_rfl) rfl (sub_cons (by kernel_rfl) rfl (sub_cons (by kernel_rfl) rfl sub_nil)))))))
            · exact hsub [0, 1] (by kernel_rfl) rfl
            intro s3233 u3234
            refine cm_seq ?_
            refine cm_seq ?_
            refine cm_cutE [(159, .bool ((decide (s3233.2 < (List.length r6.1 : Int))) && (!s3233.1)))] ?_ ?_
            · skip
              refine wq_val 152 (by kernel_rfl) (fun w1 c1 => (op_move (v := .int .i64 _) rfl)) ?_
              refine wq_val 153 (by kernel_rfl) (fun w1 c1 => (op_move (v := .slice _ _ _) rfl)) ?_
              refine wq_val 154 (by kernel_rfl) (fun w1 c1 => (op_lenN rfl (by kernel_rfl) (c1.ownZ 0 rfl).2.2)) ?_
              refine wq_dec 155 (by kernel_rfl) (fun w1 c1 => (op_lss rfl rfl)) (fun h3235 => ?_) (fun h3235 => ?_)
              · skip
                refine wq_val 156 (by kernel_rfl) (fun w1 c1 => (op_move (v := .bool true) rfl)) ?_
                refine wq_val 157 (by kernel_rfl) (fun w1 c1 => (op_move (v := .bool _) rfl)) ?_
                refine wq_val 158 (by kernel_rfl) (fun w1 c1 => (op_not rfl)) ?_
                refine wq_val 159 (by kernel_rfl) (fun w1 c1 => (op_pick_t (v := .bool _) rfl rfl)) ?_
                exact leaf_q (sub_out 8 _ rfl (by kernel_rfl) ⟨(congrArg Value.bool (by rw [decide_eq_true h3235] <;> rfl)), trivial⟩)
              · skip
                refine wq_val 156 (by kernel_rfl) (fun w1 c1 => (op_move (v := .bool false) rfl)) ?_
                refine wq_skip 157 (by kernel_rfl) ?_
                refine wq_skip 158 (by kernel_rfl) ?_
                refine wq_val 159 (by kernel_rfl) (fun w1 c1 => (op_pick_f (v := .bool false) rfl rfl)) ?_
                exact leaf_q (sub_out 8 _ rfl (by kernel_rfl) ⟨(congrArg Value.bool (by rw [decide_eq_false h3235] <;> rfl)), trivial⟩)
            refine xm_next ?_
            refine cm_condB (by kernel_rfl) rfl (fun h3236 => ?_) (fun h3236 => ?_)
            · skip
              refine cm_skip ?_
              refine xm_next ?_
              refine cm_seq ?_
              refine cm_block ?_
              refine cm_seq ?_
              refine cm_region ?_
              refine lm_val 162 (by kernel_rfl) (fun w1 c1 => (op_move (v := .slice _ _ _) rfl)) ?_
              refine lm_val 163 (by kernel_rfl) (fun w1 c1 => (op_move (v := .slice _ _ _) rfl)) ?_
              refine lm_val 164 (by kernel_rfl) (fun w1 c1 => (op_move (v := .int .i64 _) rfl)) ?_
              refine lm_ck (fun h3237 => ?_)
              refine lm_val 165 (by kernel_rfl) (fun w1 c1 => (op_indexA 1 rfl rfl (by kernel_rfl) ((c1.own 0 rfl encI_len).addr h3237.1 h3237.2) (c1.ownZ 0 rfl).2.2 h3237.1 h3237.2)) ?_
              refine lm_val 166 (by kernel_rfl) (fun w1 c1 => (op_load (v := .int .i64 (ix r6.1 s3233.2)) rfl (by kernel_rfl) ((c1.own 0 rfl encI_len).cell0 h3237.1 h3237.2 rfl))) ?_
              refine lm_ck (fun h3238 => ?_)
              refine lm_val 167 (by kernel_rfl) (fun w1 c1 => (op_indexA 7 rfl rfl (by kernel_rfl) ((hr_p0.old c1).addr h3238.1 h3238.2) hz_p0.2.2 h3238.1 h3238.2)) ?_
              refine lm_val 168 (by kernel_rfl) (fun w1 c1 => (op_loadR [.int .i64 ((ix p0 (ix r6.1 s3233.2)).ID), .int .i64 ((ix p0 (ix r6.1 s3233.2)).Container), .int .i64 ((ix p0 (ix r6.1 s3233.2)).Vehicle), .int .i64 ((ix p0 (ix r6.1 s3233.2)).At), .int .i64 ((ix p0 (ix r6.1 s3233.2)).Mass.Lo), .int .i64 ((ix p0 (ix r6.1 s3233.2)).Mass.Hi), .bool ((ix p0 (ix r6.1 s3233.2)).Void)] rfl (by kernel_rfl) ((hr_p0.old c1).row h3238.1 h3238.2))) ?_
              refine lm_alloc 15 [.int .i64 0, .int .i64 0, .int .i64 0, .int .i64 0, .int .i64 0, .int .i64 0, .bool false] (v := .agg #[.int .i64 0, .int .i64 0, .int .i64 0, .int .i64 0, .int .i64 0, .int .i64 0, .bool false]) (by kernel_rfl) (by kernel_rfl) rfl ?_
              intro b3239
              refine lm_storeA 0 [.int .i64 _, .int .i64 _, .int .i64 _, .int .i64 _, .int .i64 _, .int .i64 _, .bool _] [_, _, _, _, _, _, _] (H' := [blkE _ _ [_, _, _, _, _, _, _], _, _]) (by kernel_rfl) rfl rfl (by kernel_rfl) rfl rfl (by kernel_rfl) rfl rfl ?_
              refine lm_nil ?_
              refine xm_next ?_
              refine cm_ck (fun h3240 => ?_)
              refine cm_ck (fun h3241 => ?_)
              refine cm_ck (fun h3242 => ?_)
              refine cm_ck (fun h3243 => ?_)
              refine cm_of_then ?_
              refine cm_drawn [(13, .bool (((decide ((ix p0 (ix r6.1 s3233.2)).Container = (ix p0 s3155).Container)) && (decide ((ix p0 (ix r6.1 s3233.2)).At ≤ (ix p0 s3155).At))) && (decide ((((ix p0 s3155).At) - ((ix p0 (ix r6.1 s3233.2)).At)) ≤ p1))))] (by kernel_rfl) (by kernel_rfl) ?_ ?_
              · skip
                refine wq_val 169 (by kernel_rfl) (fun w1 c1 => (op_fieldL (m := 1) (k := 1) rfl (by kernel_rfl) rfl)) ?_
                refine wq_val 170 (by kernel_rfl) (fun w1 c1 => (op_load rfl (by kernel_rfl) (c1.cell 0 (u := .int .i64 _) rfl rfl))) ?_
                refine wq_val 171 (by kernel_rfl) (fun w1 c1 => (op_move (v := .slice _ _ _) rfl)) ?_
                refine wq_val 172 (by kernel_rfl) (fun w1 c1 => (op_move (v := .int .i64 _) rfl)) ?_
                refine wq_val 173 (by kernel_rfl) (fun w1 c1 => (op_indexA 7 rfl rfl (by kernel_rfl) ((hr_p0.old c1).addr h3240.1 h3240.2) hz_p0.2.2 h3240.1 h3240.2)) ?_
                refine wq_val 174 (by kernel_rfl) (fun w1 c1 => (op_field (m := 1) rfl (by kernel_rfl))) ?_
                refine wq_val 175 (by kernel_rfl) (fun w1 c1 => (op_load (v := .int .i64 ((ix p0 s3155).Container)) rfl (by kernel_rfl) ((hr_p0.old c1).cell (j := 1) h3240.1 h3240.2 rfl))) ?_
                refine wq_dec 176 (by kernel_rfl) (fun w1 c1 => (op_eql rfl rfl)) (fun h3244 => ?_) (fun h3244 => ?_)
                · skip
                  refine wq_val 177 (by kernel_rfl) (fun w1 c1 => (op_move (v := .bool true) rfl)) ?_
                  refine wq_val 178 (by kernel_rfl) (fun w1 c1 => (op_fieldL (m := 3) (k := 3) rfl (by kernel_rfl) rfl)) ?_
                  refine wq_val 179 (by kernel_rfl) (fun w1 c1 => (op_load rfl (by kernel_rfl) (c1.cell 0 (u := .int .i64 _) rfl rfl))) ?_
                  refine wq_val 180 (by kernel_rfl) (fun w1 c1 => (op_move (v := .slice _ _ _) rfl)) ?_
                  refine wq_val 181 (by kernel_rfl) (fun w1 c1 => (op_move (v := .int .i64 _) rfl)) ?_
                  refine wq_val 182 (by kernel_rfl) (fun w1 c1 => (op_indexA 7 rfl rfl (by kernel_rfl) ((hr_p0.old c1).addr (h3241 (by rw [decide_eq_true h3244] <;> rfl)).1 (h3241 (by rw [decide_eq_true h3244] <;> rfl)).2) hz_p0.2.2 (h3241 (by rw [decide_eq_true h3244] <;> rfl)).1 (h3241 (by rw [decide_eq_true h3244] <;> rfl)).2)) ?_
                  refine wq_val 183 (by kernel_rfl) (fun w1 c1 => (op_field (m := 3) rfl (by kernel_rfl))) ?_
                  refine wq_val 184 (by kernel_rfl) (fun w1 c1 => (op_load (v := .int .i64 ((ix p0 s3155).At)) rfl (by kernel_rfl) ((hr_p0.old c1).cell (j := 3) (h3241 (by rw [decide_eq_true h3244] <;> rfl)).1 (h3241 (by rw [decide_eq_true h3244] <;> rfl)).2 rfl))) ?_
                  refine wq_dec 185 (by kernel_rfl) (fun w1 c1 => (op_leq rfl rfl)) (fun h3245 => ?_) (fun h3245 => ?_)
                  · skip
                    refine wq_val 186 (by kernel_rfl) (fun w1 c1 => (op_pick_t (v := .bool true) rfl rfl)) ?_
                    refine wq_val 187 (by kernel_rfl) (fun w1 c1 => (op_move (v := .bool true) rfl)) ?_
                    refine wq_val 188 (by kernel_rfl) (fun w1 c1 => (op_move (v := .slice _ _ _) rfl)) ?_
                    refine wq_val 189 (by kernel_rfl) (fun w1 c1 => (op_move (v := .int .i64 _) rfl)) ?_
                    refine wq_val 190 (by kernel_rfl) (fun w1 c1 => (op_indexA 7 rfl rfl (by kernel_rfl) ((hr_p0.old c1).addr (h3242 (by rw [decide_eq_true h3244, decide_eq_true h3245] <;> rfl)).1 (h3242 (by rw [decide_eq_true h3244, decide_eq_true h3245] <;> rfl)).2) hz_p0.2.2 (h3242 (by rw [decide_eq_true h3244, decide_eq_true h3245] <;> rfl)).1 (h3242 (by rw [decide_eq_true h3244, decide_eq_true h3245] <;> rfl)).2)) ?_
                    refine wq_val 191 (by kernel_rfl) (fun w1 c1 => (op_field (m := 3) rfl (by kernel_rfl))) ?_
                    refine wq_val 192 (by kernel_rfl) (fun w1 c1 => (op_load (v := .int .i64 ((ix p0 s3155).At)) rfl (by kernel_rfl) ((hr_p0.old c1).cell (j := 3) (h3242 (by rw [decide_eq_true h3244, decide_eq_true h3245] <;> rfl)).1 (h3242 (by rw [decide_eq_true h3244, decide_eq_true h3245] <;> rfl)).2 rfl))) ?_
                    refine wq_val 193 (by kernel_rfl) (fun w1 c1 => (op_fieldL (m := 3) (k := 3) rfl (by kernel_rfl) rfl)) ?_
                    refine wq_val 194 (by kernel_rfl) (fun w1 c1 => (op_load rfl (by kernel_rfl) (c1.cell 0 (u := .int .i64 _) rfl rfl))) ?_
                    refine wq_val 195 (by kernel_rfl) (fun w1 c1 => (op_sub rfl rfl (h3243 (by rw [decide_eq_true h3244, decide_eq_true h3245] <;> rfl)))) ?_
                    refine wq_val 196 (by kernel_rfl) (fun w1 c1 => (op_move (v := .int .i64 _) rfl)) ?_
                    refine wq_val 197 (by kernel_rfl) (fun w1 c1 => (op_leq rfl rfl)) ?_
                    refine wq_val 198 (by kernel_rfl) (fun w1 c1 => (op_pick_t (v := .bool _) rfl rfl)) ?_
                    refine wq_val 13 (by kernel_rfl) (fun w1 c1 => (op_assign (v := .bool _) rfl)) ?_
                    exact leaf_q (sub_out 31 _ rfl (by kernel_rfl) ⟨(congrArg Value.bool (by rw [decide_eq_true h3244, decide_eq_true h3245] <;> rfl)), trivial⟩)
                  · skip
                    refine wq_val 186 (by kernel_rfl) (fun w1 c1 => (op_pick_t (v := .bool false) rfl rfl)) ?_
                    refine wq_val 187 (by kernel_rfl) (fun w1 c1 => (op_move (v := .bool false) rfl)) ?_
                    refine wq_skip 188 (by kernel_rfl) ?_
                    refine wq_skip 189 (by kernel_rfl) ?_
                    refine wq_skip 190 (by kernel_rfl) ?_
                    refine wq_skip 191 (by kernel_rfl) ?_
                    refine wq_skip 192 (by kernel_rfl) ?_
                    refine wq_skip 193 (by kernel_rfl) ?_
                    refine wq_skip 194 (by kernel_rfl) ?_
                    refine wq_skip 195 (by kernel_rfl) ?_
                    refine wq_skip 196 (by kernel_rfl) ?_
                    refine wq_skip 197 (by kernel_rfl) ?_
                    refine wq_val 198 (by kernel_rfl) (fun w1 c1 => (op_pick_f (v := .bool false) rfl rfl)) ?_
                    refine wq_val 13 (by kernel_rfl) (fun w1 c1 => (op_assign (v := .bool false) rfl)) ?_
                    exact leaf_q (sub_out 31 _ rfl (by kernel_rfl) ⟨(congrArg Value.bool (by rw [decide_eq_true h3244, decide_eq_false h3245] <;> rfl)), trivial⟩)
                · skip
                  refine wq_val 177 (by kernel_rfl) (fun w1 c1 => (op_move (v := .bool false) rfl)) ?_
                  refine wq_skip 178 (by kernel_rfl) ?_
                  refine wq_skip 179 (by kernel_rfl) ?_
                  refine wq_skip 180 (by kernel_rfl) ?_
                  refine wq_skip 181 (by kernel_rfl) ?_
                  refine wq_skip 182 (by kernel_rfl) ?_
                  refine wq_skip 183 (by kernel_rfl) ?_
                  refine wq_skip 184 (by kernel_rfl) ?_
                  refine wq_skip 185 (by kernel_rfl) ?_
                  refine wq_val 186 (by kernel_rfl) (fun w1 c1 => (op_pick_f (v := .bool false) rfl rfl)) ?_
                  refine wq_val 187 (by kernel_rfl) (fun w1 c1 => (op_move (v := .bool false) rfl)) ?_
                  refine wq_skip 188 (by kernel_rfl) ?_
                  refine wq_skip 189 (by kernel_rfl) ?_
                  refine wq_skip 190 (by kernel_rfl) ?_
                  refine wq_skip 191 (by kernel_rfl) ?_
                  refine wq_skip 192 (by kernel_rfl) ?_
                  refine wq_skip 193 (by kernel_rfl) ?_
                  refine wq_skip 194 (by kernel_rfl) ?_
                  refine wq_skip 195 (by kernel_rfl) ?_
                  refine wq_skip 196 (by kernel_rfl) ?_
                  refine wq_skip 197 (by kernel_rfl) ?_
                  refine wq_val 198 (by kernel_rfl) (fun w1 c1 => (op_pick_f (v := .bool false) rfl rfl)) ?_
                  refine wq_val 13 (by kernel_rfl) (fun w1 c1 => (op_assign (v := .bool false) rfl)) ?_
                  exact leaf_q (sub_out 31 _ rfl (by kernel_rfl) ⟨(congrArg Value.bool (by rw [decide_eq_false h3244] <;> rfl)), trivial⟩)
              refine xm_of_then ?_
              refine xm_inN ?_
              refine xm_next ?_
              refine cm_region ?_
              refine lm_val 160 (by kernel_rfl) (fun w1 c1 => (op_move (v := .int .i64 _) rfl)) ?_
              refine lm_ck (fun h3246 => ?_)
              refine lm_val 161 (by kernel_rfl) (fun w1 c1 => (op_add rfl rfl h3246)) ?_
              refine lm_val 14 (by kernel_rfl) (fun w1 c1 => (op_assign (v := .int .i64 _) rfl)) ?_
              refine lm_nil ?_
              exact xm_lnext () (sub_cons (by kernel_rfl) rfl (sub_cons (by kernel_rfl) rfl (sub_cons (by kernel_rfl) rfl (sub_cons (by kernel_rfl) rfl (sub_cons (by kernel_rfl) rfl (sub_cons (by kernel_rfl) rfl (sub_cons (by kernel_rfl) rfl sub_nil))))))) (hsub [1, 2] (by kernel_rfl) rfl)
            · skip
              refine cm_exit ?_
              refine xm_thenE ?_
              refine xm_lexit ?_
              refine xm_here ?_
              exact xm_lnext () (sub_cons (by kernel_rfl) rfl (sub_cons (by kernel_rfl) rfl (sub_cons (by kernel_rfl) rfl (sub_cons (by kernel_rfl) rfl (sub_cons (by kernel_rfl) rfl (sub_cons (by kernel_rfl) rfl sub_nil)))))) (hsub [0, 1] (by kernel_rfl) rfl)
          intro s3203 u3204
          refine cm_seq ?_
          refine cm_region ?_
          refine lm_val 199 (by kernel_rfl) (fun w1 c1 => (op_move (v := .bool _) rfl)) ?_
          refine lm_val 200 (by kernel_rfl) (fun w1 c1 => (op_not rfl)) ?_
          refine lm_nil ?_
          refine xm_next ?_
          refine cm_condB (by kernel_rfl) rfl (fun h3247 => ?_) (fun h3247 => ?_)
          · skip
            refine cm_seq ?_
            refine cm_region ?_
            refine lm_val 4 (by kernel_rfl) (fun w1 c1 => (op_assign (v := .bool false) rfl)) ?_
            refine lm_nil ?_
            refine xm_next ?_
            refine cm_ret ?_
            refine xm_inR ?_
            refine xm_thenR ?_
            refine xm_lret ?_
            refine xm_inR ?_
            refine xm_lret ?_
            exact xm_retT rfl (by kernel_rfl) (show _ = Value.bool false from rfl) fun w1 c1 => ⟨(), rfl, hsub [] (by kernel_rfl) rfl w1 c1⟩
          · skip
            refine cm_skip ?_
            refine xm_inN ?_
            refine xm_next ?_
            refine cm_region ?_
            refine lm_val 139 (by kernel_rfl) (fun w1 c1 => (op_move (v := .int .i64 _) rfl)) ?_
            refine lm_ck (fun h3248 => ?_)
            refine lm_val 140 (by kernel_rfl) (fun w1 c1 => (op_add rfl rfl h3248)) ?_
            refine lm_val 12 (by kernel_rfl) (fun w1 c1 => (op_assign (v := .int .i64 _) rfl)) ?_
            refine lm_nil ?_
            exact xm_lnext () (sub_cons (by kernel_rfl) rfl (sub_cons (by kernel_rfl) rfl (sub_cons (by kernel_rfl) rfl (sub_cons (by kernel_rfl) rfl (sub_cons (by kernel_rfl) rfl sub_nil))))) (hsub [0, 1] (by kernel_rfl) rfl)
        · skip
          refine cm_exit ?_
          refine xm_thenE ?_
          refine xm_lexit ?_
          refine xm_here ?_
          exact xm_lnext () sub_nil (hsub [] (by kernel_rfl) rfl)
      intro s2965 u2966
      refine cm_seq ?_
      refine cm_region ?_
      refine lm_call 201 (V := (fun (r : Bool) (_u : Unit) => .bool r)) (HR := (fun (_r : Bool) (_u : Unit) => [])) (by kernel_rfl) (fun w1 => op_call (by kernel_rfl)) (fun r1 hr1 w1 c1 => m_recyclinglaw18_awake_ok N w1   r1 hr1) ?_
      intro r3249 u3250
      refine lm_val 4 (by kernel_rfl) (fun w1 c1 => (op_assign (v := .bool _) rfl)) ?_
      refine lm_nil ?_
      refine xm_next ?_
      refine cm_ret ?_
      exact xm_retT rfl (by kernel_rfl) (show _ = Value.bool _ from rfl) fun w1 c1 => ⟨(), rfl, hsub [] (by kernel_rfl) rfl w1 c1⟩
end Go.Proofs.Ytkepegnnkmmefaa
