/- Models of functions, and that the code follows them. Written by deco.py. -/
import Derived.Test.YtkepegnnkmmefaaEmpAwake
namespace Go.Proofs.Ytkepegnnkmmefaa
open Go.RowKit

/-- recyclinglaw18.EmptyingVoids -/
def m_recyclinglaw18_EmptyingVoids (N : Nat) (p0 : (List ApiEmptying)) (p1 : Int) (p2 : Int) : Option (Bool) :=
  Option.bind (m_recyclinglaw18_great N p0) fun r1 => (if (r1 || (decide ((List.length p0 : Int) = 0))) = true then
    Option.bind (m_recyclinglaw18_awake N) fun r5 => some (r5)
  else
    Option.bind (m_emptying_Counts N p0 p1) fun r7 => (if r7.2 ≠ 0 then
      Option.bind (m_recyclinglaw18_awake N) fun r10 => some (r10)
    else
      ck (I64 p2) (
        ck (0 < (List.length p0 : Int) ∧ I64 p2) (
          ck ((List.length ([] : List ApiEmptying) + List.length p0) * 56 ≤ 140737488355328) (
            ck ((0 : Int) ≤ (Int.tmod p2 (List.length p0 : Int)) ∧ (Int.tmod p2 (List.length p0 : Int)) < (List.length (([] : List ApiEmptying) ++ p0) : Int)) (
              Option.bind (m_emptying_Counts N (List.set (([] : List ApiEmptying) ++ p0) (Int.toNat (Int.tmod p2 (List.length p0 : Int))) (ApiEmptying.mk ((ix (([] : List ApiEmptying) ++ p0) (Int.tmod p2 (List.length p0 : Int))).ID) ((ix (([] : List ApiEmptying) ++ p0) (Int.tmod p2 (List.length p0 : Int))).Container) ((ix (([] : List ApiEmptying) ++ p0) (Int.tmod p2 (List.length p0 : Int))).Vehicle) ((ix (([] : List ApiEmptying) ++ p0) (Int.tmod p2 (List.length p0 : Int))).At) ((ix (([] : List ApiEmptying) ++ p0) (Int.tmod p2 (List.length p0 : Int))).Mass) true)) p1) fun r23 => (andThen
                (loopM (fun (s55 : Bool × Int) =>
                  (if s55.2 < (List.length r7.1 : Int) then
                    ck ((!s55.1) = true → (0 : Int) ≤ s55.2 ∧ s55.2 < (List.length r7.1 : Int)) (
                      ck (I64 (s55.2 + (1 : Int))) (
                        some (.next ((s55.1 || (decide ((ix r7.1 s55.2) = (Int.tmod p2 (List.length p0 : Int))))), (s55.2 + (1 : Int))))))
                  else
                    some (.done (.next s55.1)))) N (false, (0 : Int)))
              fun (s42 : Bool) =>
                (andThen
                  (loopM (fun (s93 : Int) =>
                    (if s93 < (List.length r23.1 : Int) then
                      ck ((0 : Int) ≤ s93 ∧ s93 < (List.length r23.1 : Int)) (
                        (if (ix r23.1 s93) = (Int.tmod p2 (List.length p0 : Int)) then
                          some (.done (.done (false)))
                        else
                          ck (I64 (s93 + (1 : Int))) (
                            some (.next (s93 + (1 : Int))))))
                    else
                      some (.done (.next ())))) N (0 : Int))
                fun (_s79 : Unit) =>
                  callIf (((decide (r23.2 = 0)) && (!s42)) = true) (m_recyclingref18_Same N r7.1 r23.1) fun r99 => callIf (((decide (r23.2 = 0)) && (s42 || r99)) = true) (m_recyclinglaw18_awake N) fun r101 => some ((((decide (r23.2 = 0)) && (s42 || r99)) && r101))))))))))
set_option maxRecDepth 20000 in
theorem m_recyclinglaw18_EmptyingVoids_ok (N : Nat) (w0 : World) (p0 : (List ApiEmptying)) (p1 : Int) (p2 : Int) (A_p0 : Option Addr) (n_p0 c_p0 : Nat) (hr_p0 : RdE w0 7 encApiEmptying A_p0 p0) (hz_p0 : SW A_p0 n_p0 c_p0 (List.length p0)) (r : Bool) (hr : m_recyclinglaw18_EmptyingVoids N p0 p1 p2 = some r) :
    Calls Try.prog 10 [.slice A_p0 n_p0 c_p0, .int .i64 p1, .int .u8 p2].toArray w0 fun x w1 => ∃ u, x = .returned ((fun (r : Bool) (_u : Unit) => .bool r) r u) ∧ Hs w0 ((fun (_r : Bool) (_u : Unit) => []) r u) w1 := by
  refine calls_cm (n := 91) (R := fun r x w1 => ∃ u, x = .returned ((fun (r : Bool) (_u : Unit) => .bool r) r u) ∧ Hs w0 ((fun (_r : Bool) (_u : Unit) => []) r u) w1) Try.func10 rfl rfl (Nat.le_of_ble_eq_true rfl) ?_ r hr
  unfold m_recyclinglaw18_EmptyingVoids
  refine cm_seq ?_
  refine cm_region ?_
  refine lm_val 6 (by kernel_rfl) (fun w1 c1 => (op_assign (v := .bool false) rfl)) ?_
  refine lm_nil ?_
  refine xm_next ?_
  refine cm_seq ?_
  refine cm_seq ?_
  refine cm_bind fun r1 h2 => ?_
  refine cm_cutE [(22, .bool (r1 || (decide ((List.length p0 : Int) = 0))))] ?_ ?_
  · skip
    refine wq_val 16 (by kernel_rfl) (fun w1 c1 => (op_move (v := .slice _ _ _) rfl)) ?_
    refine wq_callb 17 (by kernel_rfl) (fun w1 c1 => op_call (by kernel_rfl)) (fun w1 c1 => (m_recyclinglaw18_great_ok N w1 p0 A_p0 n_p0 c_p0 (hr_p0.old c1) hz_p0 r1 h2).mono (fun _ _ ⟨_, hx, hu⟩ => ⟨hx, c1.call hu⟩)) (fun h3 => ?_) (fun h3 => ?_)
    · skip
      refine wq_val 18 (by kernel_rfl) (fun w1 c1 => (op_move (v := .bool true) rfl)) ?_
      refine wq_skip 19 (by kernel_rfl) ?_
      refine wq_skip 20 (by kernel_rfl) ?_
      refine wq_skip 21 (by kernel_rfl) ?_
      refine wq_val 22 (by kernel_rfl) (fun w1 c1 => (op_pick_t (v := .bool true) rfl rfl)) ?_
      exact leaf_q (sub_out 7 _ rfl (by kernel_rfl) ⟨(congrArg Value.bool (by rw [h3] <;> rfl)), trivial⟩)
    · skip
      refine wq_val 18 (by kernel_rfl) (fun w1 c1 => (op_move (v := .bool false) rfl)) ?_
      refine wq_val 19 (by kernel_rfl) (fun w1 c1 => (op_move (v := .slice _ _ _) rfl)) ?_
      refine wq_val 20 (by kernel_rfl) (fun w1 c1 => (op_lenN rfl (by kernel_rfl) hz_p0.2.2)) ?_
      refine wq_val 21 (by kernel_rfl) (fun w1 c1 => (op_eql rfl rfl)) ?_
      refine wq_val 22 (by kernel_rfl) (fun w1 c1 => (op_pick_f (v := .bool _) rfl rfl)) ?_
      exact leaf_q (sub_out 7 _ rfl (by kernel_rfl) ⟨(congrArg Value.bool (by rw [h3] <;> rfl)), trivial⟩)
  refine xm_next ?_
  refine cm_condB (by kernel_rfl) rfl (fun h4 => ?_) (fun h4 => ?_)
  · skip
    refine cm_seq ?_
    refine cm_region ?_
    refine lm_call 23 (V := (fun (r : Bool) (_u : Unit) => .bool r)) (HR := (fun (_r : Bool) (_u : Unit) => [])) (by kernel_rfl) (fun w1 => op_call (by kernel_rfl)) (fun r1 hr1 w1 c1 => m_recyclinglaw18_awake_ok N w1   r1 hr1) ?_
    intro r5 u6
    refine lm_val 6 (by kernel_rfl) (fun w1 c1 => (op_assign (v := .bool _) rfl)) ?_
    refine lm_nil ?_
    refine xm_next ?_
    refine cm_ret ?_
    refine xm_thenR ?_
    exact xm_retT rfl (by kernel_rfl) (show _ = Value.bool _ from rfl) fun w1 c1 => ⟨(), rfl, hsub [] (by kernel_rfl) rfl w1 c1⟩
  · skip
    refine cm_skip ?_
    refine xm_next ?_
    refine cm_seq ?_
    refine cm_region ?_
    refine lm_val 25 (by kernel_rfl) (fun w1 c1 => (op_move (v := .slice _ _ _) rfl)) ?_
    refine lm_val 26 (by kernel_rfl) (fun w1 c1 => (op_move (v := .int .i64 _) rfl)) ?_
    refine lm_call 27 (V := (fun (r : (List Int) × Int) (u : (Option Addr) × Nat × Nat) => .tuple #[.slice u.1 u.2.1 u.2.2, .int .i64 r.2])) (HR := (fun (r : (List Int) × Int) (u : (Option Addr) × Nat × Nat) => [ownE 3 1 encI u.1 u.2.1 u.2.2 r.1])) (by kernel_rfl) (fun w1 => op_call (by kernel_rfl)) (fun r1 hr1 w1 c1 => m_emptying_Counts_ok N w1 p0 p1 A_p0 n_p0 c_p0 (hr_p0.old c1) hz_p0 r1 hr1) ?_
    intro r7 u8
    refine lm_val 24 (by kernel_rfl) (fun w1 c1 => (op_move (v := .tuple _) rfl)) ?_
    refine lm_val 28 (by kernel_rfl) (fun w1 c1 => (op_extract (v := .slice _ _ _) rfl rfl)) ?_
    refine lm_val 29 (by kernel_rfl) (fun w1 c1 => (op_extract (v := .int .i64 _) rfl rfl)) ?_
    refine lm_val 7 (by kernel_rfl) (fun w1 c1 => (op_assign (v := .slice _ _ _) rfl)) ?_
    refine lm_val 8 (by kernel_rfl) (fun w1 c1 => (op_assign (v := .int .i64 _) rfl)) ?_
    refine lm_nil ?_
    refine xm_next ?_
    refine cm_seq ?_
    refine cm_seq ?_
    refine cm_region ?_
    refine lm_val 30 (by kernel_rfl) (fun w1 c1 => (op_move (v := .int .i64 _) rfl)) ?_
    refine lm_val 31 (by kernel_rfl) (fun w1 c1 => (op_neq rfl rfl)) ?_
    refine lm_nil ?_
    refine xm_next ?_
    refine cm_cond (by kernel_rfl) rfl (fun h9 => ?_) (fun h9 => ?_)
    · skip
      refine cm_seq ?_
      refine cm_region ?_
      refine lm_call 32 (V := (fun (r : Bool) (_u : Unit) => .bool r)) (HR := (fun (_r : Bool) (_u : Unit) => [])) (by kernel_rfl) (fun w1 => op_call (by kernel_rfl)) (fun r1 hr1 w1 c1 => m_recyclinglaw18_awake_ok N w1   r1 hr1) ?_
      intro r10 u11
      refine lm_val 6 (by kernel_rfl) (fun w1 c1 => (op_assign (v := .bool _) rfl)) ?_
      refine lm_nil ?_
      refine xm_next ?_
      refine cm_ret ?_
      refine xm_thenR ?_
      exact xm_retT rfl (by kernel_rfl) (show _ = Value.bool _ from rfl) fun w1 c1 => ⟨(), rfl, hsub [] (by kernel_rfl) rfl w1 c1⟩
    · skip
      refine cm_skip ?_
      refine xm_next ?_
      refine cm_seq ?_
      refine cm_region ?_
      refine lm_val 33 (by kernel_rfl) (fun w1 c1 => (op_move (v := .int .u8 _) rfl)) ?_
      refine lm_ck (fun h12 => ?_)
      refine lm_val 34 (by kernel_rfl) (fun w1 c1 => (op_convI64 rfl (by kernel_rfl) (by kernel_rfl) h12)) ?_
      refine lm_val 35 (by kernel_rfl) (fun w1 c1 => (op_move (v := .slice _ _ _) rfl)) ?_
      refine lm_val 36 (by kernel_rfl) (fun w1 c1 => (op_lenN rfl (by kernel_rfl) hz_p0.2.2)) ?_
      refine lm_ck (fun h13 => ?_)
      refine lm_val 37 (by kernel_rfl) (fun w1 c1 => (op_rem rfl rfl h13.1 h13.2)) ?_
      refine lm_val 9 (by kernel_rfl) (fun w1 c1 => (op_assign (v := .int .i64 _) rfl)) ?_
      refine lm_nil ?_
      refine xm_next ?_
      refine cm_seq ?_
      refine cm_region ?_
      refine lm_slice0 38 (el := 47) (sz := 7) (bytes := 56) (enc := encApiEmptying) (by kernel_rfl) (by kernel_rfl) ?_
      intro A14 n15 k16 h17
      refine lm_val 39 (by kernel_rfl) (fun w1 c1 => (op_move (v := .slice _ _ _) rfl)) ?_
      refine lm_ck (fun h18 => ?_)
      refine lm_append 40 0 (el := 47) (sz := 7) (bytes := 56) (enc := encApiEmptying) (l2 := p0) (by kernel_rfl) (by kernel_rfl) encApiEmptying_len encApiEmptying_one rfl rfl rfl (fun w1 c1 => hz_p0) (fun w1 c1 => (hr_p0.old c1)) h18 ?_ (by kernel_rfl)
      intro A19 n20 k21
      refine lm_val 10 (by kernel_rfl) (fun w1 c1 => (op_assign (v := .slice _ _ _) rfl)) ?_
      refine lm_nil ?_
      refine xm_next ?_
      refine cm_seq ?_
      refine cm_region ?_
      refine lm_val 41 (by kernel_rfl) (fun w1 c1 => (op_move (v := .slice _ _ _) rfl)) ?_
      refine lm_val 42 (by kernel_rfl) (fun w1 c1 => (op_move (v := .int .i64 _) rfl)) ?_
      refine lm_ck (fun h22 => ?_)
      refine lm_val 43 (by kernel_rfl) (fun w1 c1 => (op_indexA 7 rfl rfl (by kernel_rfl) ((c1.own 0 rfl encApiEmptying_len).addr h22.1 h22.2) (c1.ownZ 0 rfl).2.2 h22.1 h22.2)) ?_
      refine lm_val 44 (by kernel_rfl) (fun w1 c1 => (op_field (m := 6) rfl (by kernel_rfl))) ?_
      refine lm_storeIx 0 (ApiEmptying.mk ((ix (([] : List ApiEmptying) ++ p0) (Int.tmod p2 (List.length p0 : Int))).ID) ((ix (([] : List ApiEmptying) ++ p0) (Int.tmod p2 (List.length p0 : Int))).Container) ((ix (([] : List ApiEmptying) ++ p0) (Int.tmod p2 (List.length p0 : Int))).Vehicle) ((ix (([] : List ApiEmptying) ++ p0) (Int.tmod p2 (List.length p0 : Int))).At) ((ix (([] : List ApiEmptying) ++ p0) (Int.tmod p2 (List.length p0 : Int))).Mass) true) 6 [.bool true] (by kernel_rfl) rfl rfl (by kernel_rfl) rfl rfl rfl encApiEmptying_len encApiEmptying_one h22.1 h22.2 (by kernel_rfl) rfl ?_
      refine lm_nil ?_
      refine xm_next ?_
      refine cm_seq ?_
      refine cm_region ?_
      refine lm_val 46 (by kernel_rfl) (fun w1 c1 => (op_move (v := .slice _ _ _) rfl)) ?_
      refine lm_val 47 (by kernel_rfl) (fun w1 c1 => (op_move (v := .int .i64 _) rfl)) ?_
      refine lm_call 48 (V := (fun (r : (List Int) × Int) (u : (Option Addr) × Nat × Nat) => .tuple #[.slice u.1 u.2.1 u.2.2, .int .i64 r.2])) (HR := (fun (r : (List Int) × Int) (u : (Option Addr) × Nat × Nat) => [ownE 3 1 encI u.1 u.2.1 u.2.2 r.1])) (by kernel_rfl) (fun w1 => op_call (by kernel_rfl)) (fun r1 hr1 w1 c1 => m_emptying_Counts_ok N w1 (List.set (([] : List ApiEmptying) ++ p0) (Int.toNat (Int.tmod p2 (List.length p0 : Int))) (ApiEmptying.mk ((ix (([] : List ApiEmptying) ++ p0) (Int.tmod p2 (List.length p0 : Int))).ID) ((ix (([] : List ApiEmptying) ++ p0) (Int.tmod p2 (List.length p0 : Int))).Container) ((ix (([] : List ApiEmptying) ++ p0) (Int.tmod p2 (List.length p0 : Int))).Vehicle) ((ix (([] : List ApiEmptying) ++ p0) (Int.tmod p2 (List.length p0 : Int))).At) ((ix (([] : List ApiEmptying) ++ p0) (Int.tmod p2 (List.length p0 : Int))).Mass) true)) p1 A19 n20 k21 (c1.own 0 rfl encApiEmptying_len) (c1.ownZ 0 rfl) r1 hr1) ?_
      intro r23 u24
      refine lm_val 45 (by kernel_rfl) (fun w1 c1 => (op_move (v := .tuple _) rfl)) ?_
      refine lm_val 49 (by kernel_rfl) (fun w1 c1 => (op_extract (v := .slice _ _ _) rfl rfl)) ?_
      refine lm_val 50 (by kernel_rfl) (fun w1 c1 => (op_extract (v := .int .i64 _) rfl rfl)) ?_
      refine lm_val 11 (by kernel_rfl) (fun w1 c1 => (op_assign (v := .slice _ _ _) rfl)) ?_
      refine lm_val 12 (by kernel_rfl) (fun w1 c1 => (op_assign (v := .int .i64 _) rfl)) ?_
      refine lm_nil ?_
      refine xm_next ?_
      refine cm_seq ?_
      refine cm_region ?_
      refine lm_val 13 (by kernel_rfl) (fun w1 c1 => (op_assign (v := .bool false) rfl)) ?_
      refine lm_nil ?_
      refine xm_next ?_
      refine cm_join (σ := Bool) (ξ := Unit) (fun s42 u43 => [(7, .slice u8.1 u8.2.1 u8.2.2), (9, .int .i64 (Int.tmod p2 (List.length p0 : Int))), (11, .slice u24.1 u24.2.1 u24.2.2), (12, .int .i64 r23.2), (13, .bool s42)]) (fun s42 u43 => [ownE 3 1 encI u8.1 u8.2.1 u8.2.2 r7.1, ownE 3 1 encI u24.1 u24.2.1 u24.2.2 r23.1]) ?_ ?_
      · skip
        refine cm_seq ?_
        refine cm_region ?_
        refine lm_val 14 (by kernel_rfl) (fun w1 c1 => (op_assign (v := .int .i64 _) rfl)) ?_
        refine lm_nil ?_
        refine xm_next ?_
        refine cm_block ?_
        refine cm_loop (σ := Bool × Int) (ξ := Unit) (fun s55 u56 => [(7, .slice u8.1 u8.2.1 u8.2.2), (9, .int .i64 (Int.tmod p2 (List.length p0 : Int))), (11, .slice u24.1 u24.2.1 u24.2.2), (12, .int .i64 r23.2), (13, .bool s55.1), (14, .int .i64 s55.2)]) (fun s55 u56 => [ownE 3 1 encI u8.1 u8.2.1 u8.2.2 r7.1, ownE 3 1 encI u24.1 u24.2.1 u24.2.2 r23.1]) () ?_ ?_ ?_
        · exact (sub_cons (by kernel_rfl) rfl (sub_cons (by kernel_rfl) rfl (sub_cons (by kernel_rfl) rfl (sub_cons (by kernel_rfl) rfl (sub_cons (by kernel_rfl) rfl (sub_cons (by kernel_rfl) rfl sub_nil))))))
        · exact hsub [2, 0] (by kernel_rfl) rfl
        intro s55 u56
        refine cm_seq ?_
        refine cm_seq ?_
        refine cm_region ?_
        refine lm_val 51 (by kernel_rfl) (fun w1 c1 => (op_move (v := .int .i64 _) rfl)) ?_
        refine lm_val 52 (by kernel_rfl) (fun w1 c1 => (op_move (v := .slice _ _ _) rfl)) ?_
        refine lm_val 53 (by kernel_rfl) (fun w1 c1 => (op_lenN rfl (by kernel_rfl) (c1.ownZ 0 rfl).2.2)) ?_
        refine lm_val 54 (by kernel_rfl) (fun w1 c1 => (op_lss rfl rfl)) ?_
        refine lm_nil ?_
        refine xm_next ?_
        refine cm_cond (by kernel_rfl) rfl (fun h57 => ?_) (fun h57 => ?_)
        · skip
          refine cm_skip ?_
          refine xm_next ?_
          refine cm_seq ?_
          refine cm_block ?_
          refine cm_ck (fun h58 => ?_)
          refine cm_of_then ?_
          refine cm_cutE [(13, .bool (s55.1 || (decide ((ix r7.1 s55.2) = (Int.tmod p2 (List.length p0 : Int))))))] ?_ ?_
          · skip
            refine wq_bool 57 (by kernel_rfl) (fun w1 c1 => (op_move (v := .bool _) rfl)) (fun h59 => ?_) (fun h59 => ?_)
            · skip
              refine wq_val 58 (by kernel_rfl) (fun w1 c1 => (op_move (v := .bool true) rfl)) ?_
              refine wq_skip 59 (by kernel_rfl) ?_
              refine wq_skip 60 (by kernel_rfl) ?_
              refine wq_skip 61 (by kernel_rfl) ?_
              refine wq_skip 62 (by kernel_rfl) ?_
              refine wq_skip 63 (by kernel_rfl) ?_
              refine wq_skip 64 (by kernel_rfl) ?_
              refine wq_val 65 (by kernel_rfl) (fun w1 c1 => (op_pick_t (v := .bool true) rfl rfl)) ?_
              refine wq_val 13 (by kernel_rfl) (fun w1 c1 => (op_assign (v := .bool true) rfl)) ?_
              exact leaf_q (sub_out 10 _ rfl (by kernel_rfl) ⟨(congrArg Value.bool (by rw [h59] <;> rfl)), trivial⟩)
            · skip
              refine wq_val 58 (by kernel_rfl) (fun w1 c1 => (op_move (v := .bool false) rfl)) ?_
              refine wq_val 59 (by kernel_rfl) (fun w1 c1 => (op_move (v := .slice _ _ _) rfl)) ?_
              refine wq_val 60 (by kernel_rfl) (fun w1 c1 => (op_move (v := .int .i64 _) rfl)) ?_
              refine wq_val 61 (by kernel_rfl) (fun w1 c1 => (op_indexA 1 rfl rfl (by kernel_rfl) ((c1.own 0 rfl encI_len).addr (h58 (by rw [h59] <;> rfl)).1 (h58 (by rw [h59] <;> rfl)).2) (c1.ownZ 0 rfl).2.2 (h58 (by rw [h59] <;> rfl)).1 (h58 (by rw [h59] <;> rfl)).2)) ?_
              refine wq_val 62 (by kernel_rfl) (fun w1 c1 => (op_load (v := .int .i64 (ix r7.1 s55.2)) rfl (by kernel_rfl) ((c1.own 0 rfl encI_len).cell0 (h58 (by rw [h59] <;> rfl)).1 (h58 (by rw [h59] <;> rfl)).2 rfl))) ?_
              refine wq_val 63 (by kernel_rfl) (fun w1 c1 => (op_move (v := .int .i64 _) rfl)) ?_
              refine wq_val 64 (by kernel_rfl) (fun w1 c1 => (op_eql rfl rfl)) ?_
              refine wq_val 65 (by kernel_rfl) (fun w1 c1 => (op_pick_f (v := .bool _) rfl rfl)) ?_
              refine wq_val 13 (by kernel_rfl) (fun w1 c1 => (op_assign (v := .bool _) rfl)) ?_
              exact leaf_q (sub_out 10 _ rfl (by kernel_rfl) ⟨(congrArg Value.bool (by rw [h59] <;> rfl)), trivial⟩)
          refine xm_of_then ?_
          refine xm_inN ?_
          refine xm_next ?_
          refine cm_region ?_
          refine lm_val 55 (by kernel_rfl) (fun w1 c1 => (op_move (v := .int .i64 _) rfl)) ?_
          refine lm_ck (fun h60 => ?_)
          refine lm_val 56 (by kernel_rfl) (fun w1 c1 => (op_add rfl rfl h60)) ?_
          refine lm_val 14 (by kernel_rfl) (fun w1 c1 => (op_assign (v := .int .i64 _) rfl)) ?_
          refine lm_nil ?_
          exact xm_lnext () (sub_cons (by kernel_rfl) rfl (sub_cons (by kernel_rfl) rfl (sub_cons (by kernel_rfl) rfl (sub_cons (by kernel_rfl) rfl (sub_cons (by kernel_rfl) rfl (sub_cons (by kernel_rfl) rfl sub_nil)))))) (hsub [0, 1] (by kernel_rfl) rfl)
        · skip
          refine cm_exit ?_
          refine xm_thenE ?_
          refine xm_lexit ?_
          refine xm_here ?_
          exact xm_lnext () (sub_cons (by kernel_rfl) rfl (sub_cons (by kernel_rfl) rfl (sub_cons (by kernel_rfl) rfl (sub_cons (by kernel_rfl) rfl (sub_cons (by kernel_rfl) rfl sub_nil))))) (hsub [0, 1] (by kernel_rfl) rfl)
      intro s42 u43
      refine cm_join (σ := Unit) (ξ := Unit) (fun s79 u80 => [(7, .slice u8.1 u8.2.1 u8.2.2), (11, .slice u24.1 u24.2.1 u24.2.2), (12, .int .i64 r23.2), (13, .bool s42)]) (fun s79 u80 => [ownE 3 1 encI u8.1 u8.2.1 u8.2.2 r7.1, ownE 3 1 encI u24.1 u24.2.1 u24.2.2 r23.1]) ?_ ?_
      · skip
        refine cm_seq ?_
        refine cm_region ?_
        refine lm_val 15 (by kernel_rfl) (fun w1 c1 => (op_assign (v := .int .i64 _) rfl)) ?_
        refine lm_nil ?_
        refine xm_next ?_
        refine cm_block ?_
        refine cm_loop (σ := Int) (ξ := Unit) (fun s93 u94 => [(7, .slice u8.1 u8.2.1 u8.2.2), (9, .int .i64 (Int.tmod p2 (List.length p0 : Int))), (11, .slice u24.1 u24.2.1 u24.2.2), (12, .int .i64 r23.2), (13, .bool s42), (15, .int .i64 s93)]) (fun s93 u94 => [ownE 3 1 encI u8.1 u8.2.1 u8.2.2 r7.1, ownE 3 1 encI u24.1 u24.2.1 u24.2.2 r23.1]) () ?_ ?_ ?_
        · exact (sub_cons (by kernel_rfl) rfl (sub_cons (by kernel_rfl) rfl (sub_cons (by kernel_rfl) rfl (sub_cons (by kernel_rfl) rfl (sub_cons (by kernel_rfl) rfl (sub_cons (by kernel_rfl) rfl sub_nil))))))
        · exact hsub [0, 1] (by kernel_rfl) rfl
        intro s93 u94
        refine cm_seq ?_
        refine cm_seq ?_
        refine cm_region ?_
        refine lm_val 66 (by kernel_rfl) (fun w1 c1 => (op_move (v := .int .i64 _) rfl)) ?_
        refine lm_val 67 (by kernel_rfl) (fun w1 c1 => (op_move (v := .slice _ _ _) rfl)) ?_
        refine lm_val 68 (by kernel_rfl) (fun w1 c1 => (op_lenN rfl (by kernel_rfl) (c1.ownZ 1 rfl).2.2)) ?_
        refine lm_val 69 (by kernel_rfl) (fun w1 c1 => (op_lss rfl rfl)) ?_
        refine lm_nil ?_
        refine xm_next ?_
        refine cm_cond (by kernel_rfl) rfl (fun h95 => ?_) (fun h95 => ?_)
        · skip
          refine cm_skip ?_
          refine xm_next ?_
          refine cm_seq ?_
          refine cm_block ?_
          refine cm_seq ?_
          refine cm_region ?_
          refine lm_val 72 (by kernel_rfl) (fun w1 c1 => (op_move (v := .slice _ _ _) rfl)) ?_
          refine lm_val 73 (by kernel_rfl) (fun w1 c1 => (op_move (v := .int .i64 _) rfl)) ?_
          refine lm_ck (fun h96 => ?_)
          refine lm_val 74 (by kernel_rfl) (fun w1 c1 => (op_indexA 1 rfl rfl (by kernel_rfl) ((c1.own 1 rfl encI_len).addr h96.1 h96.2) (c1.ownZ 1 rfl).2.2 h96.1 h96.2)) ?_
          refine lm_val 75 (by kernel_rfl) (fun w1 c1 => (op_load (v := .int .i64 (ix r23.1 s93)) rfl (by kernel_rfl) ((c1.own 1 rfl encI_len).cell0 h96.1 h96.2 rfl))) ?_
          refine lm_val 76 (by kernel_rfl) (fun w1 c1 => (op_move (v := .int .i64 _) rfl)) ?_
          refine lm_val 77 (by kernel_rfl) (fun w1 c1 => (op_eql rfl rfl)) ?_
          refine lm_nil ?_
          refine xm_next ?_
          refine cm_cond (by kernel_rfl) rfl (fun h97 => ?_) (fun h97 => ?_)
          · skip
            refine cm_seq ?_
            refine cm_region ?_
            refine lm_val 6 (by kernel_rfl) (fun w1 c1 => (op_assign (v := .bool false) rfl)) ?_
            refine lm_nil ?_
            refine xm_next ?_
            refine cm_ret ?_
            refine xm_inR ?_
            refine xm_thenR ?_
            refine xm_lret ?_
            refine xm_inR ?_
            refine xm_lret ?_
            exact xm_retT rfl (by kernel_rfl) (show _ = Value.bool false from rfl) fun w1 c1 => ⟨(), rfl, hsub [] (by kernel_rfl) rfl w1 c1⟩
          · skip
            refine cm_skip ?_
            refine xm_inN ?_
            refine xm_next ?_
            refine cm_region ?_
            refine lm_val 70 (by kernel_rfl) (fun w1 c1 => (op_move (v := .int .i64 _) rfl)) ?_
            refine lm_ck (fun h98 => ?_)
            refine lm_val 71 (by kernel_rfl) (fun w1 c1 => (op_add rfl rfl h98)) ?_
            refine lm_val 15 (by kernel_rfl) (fun w1 c1 => (op_assign (v := .int .i64 _) rfl)) ?_
            refine lm_nil ?_
            exact xm_lnext () (sub_cons (by kernel_rfl) rfl (sub_cons (by kernel_rfl) rfl (sub_cons (by kernel_rfl) rfl (sub_cons (by kernel_rfl) rfl (sub_cons (by kernel_rfl) rfl (sub_cons (by kernel_rfl) rfl sub_nil)))))) (hsub [0, 1] (by kernel_rfl) rfl)
        · skip
          refine cm_exit ?_
          refine xm_thenE ?_
          refine xm_lexit ?_
          refine xm_here ?_
          exact xm_lnext () (sub_cons (by kernel_rfl) rfl (sub_cons (by kernel_rfl) rfl (sub_cons (by kernel_rfl) rfl (sub_cons (by kernel_rfl) rfl sub_nil)))) (hsub [0, 1] (by kernel_rfl) rfl)
      intro s79 u80
      refine cm_seq ?_
      refine cm_callIf fun r99 h100 => ?_
      refine cm_callIf fun r101 h102 => ?_
      refine cm_cutE [(6, .bool (((decide (r23.2 = 0)) && (s42 || r99)) && r101))] ?_ ?_
      · skip
        refine wq_val 78 (by kernel_rfl) (fun w1 c1 => (op_move (v := .int .i64 _) rfl)) ?_
        refine wq_dec 79 (by kernel_rfl) (fun w1 c1 => (op_eql rfl rfl)) (fun h103 => ?_) (fun h103 => ?_)
        · skip
          refine wq_val 80 (by kernel_rfl) (fun w1 c1 => (op_move (v := .bool true) rfl)) ?_
          refine wq_bool 81 (by kernel_rfl) (fun w1 c1 => (op_move (v := .bool _) rfl)) (fun h104 => ?_) (fun h104 => ?_)
          · skip
            refine wq_val 82 (by kernel_rfl) (fun w1 c1 => (op_move (v := .bool true) rfl)) ?_
            refine wq_skip 83 (by kernel_rfl) ?_
            refine wq_skip 84 (by kernel_rfl) ?_
            refine wq_skip 85 (by kernel_rfl) ?_
            refine wq_val 86 (by kernel_rfl) (fun w1 c1 => (op_pick_t (v := .bool true) rfl rfl)) ?_
            refine wq_val 87 (by kernel_rfl) (fun w1 c1 => (op_pick_t (v := .bool true) rfl rfl)) ?_
            refine wq_val 88 (by kernel_rfl) (fun w1 c1 => (op_move (v := .bool true) rfl)) ?_
            refine wq_call 89 (by kernel_rfl) (fun w1 c1 => op_call (by kernel_rfl)) (fun w1 c1 => (m_recyclinglaw18_awake_ok N w1   r101 (h102 (by rw [decide_eq_true h103, h104] <;> rfl))).mono (fun _ _ ⟨_, hx, hu⟩ => ⟨hx, c1.call hu⟩)) ?_
            refine wq_val 90 (by kernel_rfl) (fun w1 c1 => (op_pick_t (v := .bool _) rfl rfl)) ?_
            refine wq_val 6 (by kernel_rfl) (fun w1 c1 => (op_assign (v := .bool _) rfl)) ?_
            exact leaf_q (sub_out 14 _ rfl (by kernel_rfl) ⟨(congrArg Value.bool (by rw [decide_eq_true h103, h104] <;> rfl)), trivial⟩)
          · skip
            refine wq_val 82 (by kernel_rfl) (fun w1 c1 => (op_move (v := .bool false) rfl)) ?_
            refine wq_val 83 (by kernel_rfl) (fun w1 c1 => (op_move (v := .slice _ _ _) rfl)) ?_
            refine wq_val 84 (by kernel_rfl) (fun w1 c1 => (op_move (v := .slice _ _ _) rfl)) ?_
            refine wq_callb 85 (by kernel_rfl) (fun w1 c1 => op_call (by kernel_rfl)) (fun w1 c1 => (m_recyclingref18_Same_ok N w1 r7.1 r23.1 u8.1 u8.2.1 u8.2.2 u24.1 u24.2.1 u24.2.2 (c1.own 0 rfl encI_len) (c1.ownZ 0 rfl) (c1.own 1 rfl encI_len) (c1.ownZ 1 rfl) r99 (h100 (by rw [decide_eq_true h103, h104] <;> rfl))).mono (fun _ _ ⟨_, hx, hu⟩ => ⟨hx, c1.call hu⟩)) (fun h105 => ?_) (fun h105 => ?_)
            · skip
              refine wq_val 86 (by kernel_rfl) (fun w1 c1 => (op_pick_f (v := .bool true) rfl rfl)) ?_
              refine wq_val 87 (by kernel_rfl) (fun w1 c1 => (op_pick_t (v := .bool true) rfl rfl)) ?_
              refine wq_val 88 (by kernel_rfl) (fun w1 c1 => (op_move (v := .bool true) rfl)) ?_
              refine wq_call 89 (by kernel_rfl) (fun w1 c1 => op_call (by kernel_rfl)) (fun w1 c1 => (m_recyclinglaw18_awake_ok N w1   r101 (h102 (by rw [decide_eq_true h103, h104, h105] <;> rfl))).mono (fun _ _ ⟨_, hx, hu⟩ => ⟨hx, c1.call hu⟩)) ?_
              refine wq_val 90 (by kernel_rfl) (fun w1 c1 => (op_pick_t (v := .bool _) rfl rfl)) ?_
              refine wq_val 6 (by kernel_rfl) (fun w1 c1 => (op_assign (v := .bool _) rfl)) ?_
              exact leaf_q (sub_out 14 _ rfl (by kernel_rfl) ⟨(congrArg Value.bool (by rw [decide_eq_true h103, h104, h105] <;> rfl)), trivial⟩)
            · skip
              refine wq_val 86 (by kernel_rfl) (fun w1 c1 => (op_pick_f (v := .bool false) rfl rfl)) ?_
              refine wq_val 87 (by kernel_rfl) (fun w1 c1 => (op_pick_t (v := .bool false) rfl rfl)) ?_
              refine wq_val 88 (by kernel_rfl) (fun w1 c1 => (op_move (v := .bool false) rfl)) ?_
              refine wq_skip 89 (by kernel_rfl) ?_
              refine wq_val 90 (by kernel_rfl) (fun w1 c1 => (op_pick_f (v := .bool false) rfl rfl)) ?_
              refine wq_val 6 (by kernel_rfl) (fun w1 c1 => (op_assign (v := .bool false) rfl)) ?_
              exact leaf_q (sub_out 14 _ rfl (by kernel_rfl) ⟨(congrArg Value.bool (by rw [decide_eq_true h103, h104, h105] <;> rfl)), trivial⟩)
        · skip
          refine wq_val 80 (by kernel_rfl) (fun w1 c1 => (op_move (v := .bool false) rfl)) ?_
          refine wq_skip 81 (by kernel_rfl) ?_
          refine wq_skip 82 (by kernel_rfl) ?_
          refine wq_skip 83 (by kernel_rfl) ?_
          refine wq_skip 84 (by kernel_rfl) ?_
          refine wq_skip 85 (by kernel_rfl) ?_
          refine wq_skip 86 (by kernel_rfl) ?_
          refine wq_val 87 (by kernel_rfl) (fun w1 c1 => (op_pick_f (v := .bool false) rfl rfl)) ?_
          refine wq_val 88 (by kernel_rfl) (fun w1 c1 => (op_move (v := .bool false) rfl)) ?_
          refine wq_skip 89 (by kernel_rfl) ?_
          refine wq_val 90 (by kernel_rfl) (fun w1 c1 => (op_pick_f (v := .bool false) rfl rfl)) ?_
          refine wq_val 6 (by kernel_rfl) (fun w1 c1 => (op_assign (v := .bool false) rfl)) ?_
          exact leaf_q (sub_out 14 _ rfl (by kernel_rfl) ⟨(congrArg Value.bool (by rw [decide_eq_false h103] <;> rfl)), trivial⟩)
      refine xm_next ?_
      refine cm_ret ?_
      exact xm_retT rfl (by kernel_rfl) (show _ = Value.bool _ from rfl) fun w1 c1 => ⟨(), rfl, hsub [] (by kernel_rfl) rfl w1 c1⟩
end Go.Proofs.Ytkepegnnkmmefaa
