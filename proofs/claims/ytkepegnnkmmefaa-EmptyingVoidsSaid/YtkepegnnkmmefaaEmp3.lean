/- Models of functions, and that the code follows them. Written by deco.py. -/
import Derived.Test.YtkepegnnkmmefaaEmp2
namespace Go.Proofs.Ytkepegnnkmmefaa
open Go.RowKit

/-- household.Owner$1 -/
def m_household_Owner_1 (_N : Nat) (p0 : ApiAssign) (q0 : Int) (q1 : Int) : Option (Bool) :=
  some ((((decide (p0.Container = q0)) && (decide (p0.When.From ≤ q1))) && (decide (q1 < p0.When.To))))
set_option maxRecDepth 20000 in
theorem m_household_Owner_1_ok (N : Nat) (w0 : World) (p0 : ApiAssign) (q0 : Int) (q1 : Int) (b_q0 : Nat) (b_q1 : Nat) (hb_q0 : Blk w0 b_q0 3 [.int .i64 q0]) (hb_q1 : Blk w0 b_q1 3 [.int .i64 q1]) (r : Bool) (hr : m_household_Owner_1 N p0 q0 q1 = some r) :
    Calls Try.prog 43 [.agg #[.int .i64 p0.Container, .int .i64 p0.Household, .int .i64 p0.When.From, .int .i64 p0.When.To], .pointer (some ⟨b_q0, 0, none⟩), .pointer (some ⟨b_q1, 0, none⟩)].toArray w0 fun x w1 => ∃ u, x = .returned ((fun (r : Bool) (_u : Unit) => .bool r) r u) ∧ Hs w0 ((fun (_r : Bool) (_u : Unit) => []) r u) w1 := by
  refine calls_cm (n := 23) (R := fun r x w1 => ∃ u, x = .returned ((fun (r : Bool) (_u : Unit) => .bool r) r u) ∧ Hs w0 ((fun (_r : Bool) (_u : Unit) => []) r u) w1) Try.func43 rfl rfl (Nat.le_of_ble_eq_true rfl) ?_ r hr
  unfold m_household_Owner_1
  refine cm_seq ?_
  refine cm_region ?_
  refine lm_box 3 [.int .i64 _, .int .i64 _, .int .i64 _, .int .i64 _] (by kernel_rfl) rfl ?_
  intro b1
  refine lm_val 4 (by kernel_rfl) (fun w1 c1 => (op_assign (v := .bool false) rfl)) ?_
  refine lm_nil ?_
  refine xm_next ?_
  refine cm_seq ?_
  refine cm_cutE [(4, .bool (((decide (p0.Container = q0)) && (decide (p0.When.From ≤ q1))) && (decide (q1 < p0.When.To))))] ?_ ?_
  · skip
    refine wq_val 5 (by kernel_rfl) (fun w1 c1 => (op_fieldL (m := 0) (k := 0) rfl (by kernel_rfl) rfl)) ?_
    refine wq_val 6 (by kernel_rfl) (fun w1 c1 => (op_load rfl (by kernel_rfl) (c1.cell 0 (u := .int .i64 _) rfl rfl))) ?_
    refine wq_val 7 (by kernel_rfl) (fun w1 c1 => (op_load rfl (by kernel_rfl) (c1.ocell (hb_q0.at_ 0 (u := .int .i64 _) rfl)))) ?_
    refine wq_dec 8 (by kernel_rfl) (fun w1 c1 => (op_eql rfl rfl)) (fun h2 => ?_) (fun h2 => ?_)
    · skip
      refine wq_val 9 (by kernel_rfl) (fun w1 c1 => (op_move (v := .bool true) rfl)) ?_
      refine wq_val 10 (by kernel_rfl) (fun w1 c1 => (op_fieldL (m := 2) (k := 2) rfl (by kernel_rfl) rfl)) ?_
      refine wq_val 11 (by kernel_rfl) (fun w1 c1 => (op_fieldL (m := 0) (k := 2) rfl (by kernel_rfl) rfl)) ?_
      refine wq_val 12 (by kernel_rfl) (fun w1 c1 => (op_load rfl (by kernel_rfl) (c1.cell 0 (u := .int .i64 _) rfl rfl))) ?_
      refine wq_val 13 (by kernel_rfl) (fun w1 c1 => (op_load rfl (by kernel_rfl) (c1.ocell (hb_q1.at_ 0 (u := .int .i64 _) rfl)))) ?_
      refine wq_dec 14 (by kernel_rfl) (fun w1 c1 => (op_leq rfl rfl)) (fun h3 => ?_) (fun h3 => ?_)
      · skip
        refine wq_val 15 (by kernel_rfl) (fun w1 c1 => (op_pick_t (v := .bool true) rfl rfl)) ?_
        refine wq_val 16 (by kernel_rfl) (fun w1 c1 => (op_move (v := .bool true) rfl)) ?_
        refine wq_val 17 (by kernel_rfl) (fun w1 c1 => (op_load rfl (by kernel_rfl) (c1.ocell (hb_q1.at_ 0 (u := .int .i64 _) rfl)))) ?_
        refine wq_val 18 (by kernel_rfl) (fun w1 c1 => (op_fieldL (m := 2) (k := 2) rfl (by kernel_rfl) rfl)) ?_
        refine wq_val 19 (by kernel_rfl) (fun w1 c1 => (op_fieldL (m := 1) (k := 3) rfl (by kernel_rfl) rfl)) ?_
        refine wq_val 20 (by kernel_rfl) (fun w1 c1 => (op_load rfl (by kernel_rfl) (c1.cell 0 (u := .int .i64 _) rfl rfl))) ?_
        refine wq_val 21 (by kernel_rfl) (fun w1 c1 => (op_lss rfl rfl)) ?_
        refine wq_val 22 (by kernel_rfl) (fun w1 c1 => (op_pick_t (v := .bool _) rfl rfl)) ?_
        refine wq_val 4 (by kernel_rfl) (fun w1 c1 => (op_assign (v := .bool _) rfl)) ?_
        exact leaf_q (sub_out 19 _ rfl (by kernel_rfl) ⟨(congrArg Value.bool (by rw [decide_eq_true h2, decide_eq_true h3] <;> rfl)), trivial⟩)
      · skip
        refine wq_val 15 (by kernel_rfl) (fun w1 c1 => (op_pick_t (v := .bool false) rfl rfl)) ?_
        refine wq_val 16 (by kernel_rfl) (fun w1 c1 => (op_move (v := .bool false) rfl)) ?_
        refine wq_skip 17 (by kernel_rfl) ?_
        refine wq_skip 18 (by kernel_rfl) ?_
        refine wq_skip 19 (by kernel_rfl) ?_
        refine wq_skip 20 (by kernel_rfl) ?_
        refine wq_skip 21 (by kernel_rfl) ?_
        refine wq_val 22 (by kernel_rfl) (fun w1 c1 => (op_pick_f (v := .bool false) rfl rfl)) ?_
        refine wq_val 4 (by kernel_rfl) (fun w1 c1 => (op_assign (v := .bool false) rfl)) ?_
        exact leaf_q (sub_out 19 _ rfl (by kernel_rfl) ⟨(congrArg Value.bool (by rw [decide_eq_true h2, decide_eq_false h3] <;> rfl)), trivial⟩)
    · skip
      refine wq_val 9 (by kernel_rfl) (fun w1 c1 => (op_move (v := .bool false) rfl)) ?_
      refine wq_skip 10 (by kernel_rfl) ?_
      refine wq_skip 11 (by kernel_rfl) ?_
      refine wq_skip 12 (by kernel_rfl) ?_
      refine wq_skip 13 (by kernel_rfl) ?_
      refine wq_skip 14 (by kernel_rfl) ?_
      refine wq_val 15 (by kernel_rfl) (fun w1 c1 => (op_pick_f (v := .bool false) rfl rfl)) ?_
      refine wq_val 16 (by kernel_rfl) (fun w1 c1 => (op_move (v := .bool false) rfl)) ?_
      refine wq_skip 17 (by kernel_rfl) ?_
      refine wq_skip 18 (by kernel_rfl) ?_
      refine wq_skip 19 (by kernel_rfl) ?_
      refine wq_skip 20 (by kernel_rfl) ?_
      refine wq_skip 21 (by kernel_rfl) ?_
      refine wq_val 22 (by kernel_rfl) (fun w1 c1 => (op_pick_f (v := .bool false) rfl rfl)) ?_
      refine wq_val 4 (by kernel_rfl) (fun w1 c1 => (op_assign (v := .bool false) rfl)) ?_
      exact leaf_q (sub_out 19 _ rfl (by kernel_rfl) ⟨(congrArg Value.bool (by rw [decide_eq_false h2] <;> rfl)), trivial⟩)
  refine xm_next ?_
  refine cm_ret ?_
  exact xm_retT rfl (by kernel_rfl) (show _ = Value.bool _ from rfl) fun w1 c1 => ⟨(), rfl, hsub [] (by kernel_rfl) rfl w1 c1⟩
/-- household.chosen -/
def m_household_chosen_household_Owner_1 (N : Nat) (p0 : (List ApiAssign)) (p1c0 : Int) (p1c1 : Int) : Option ((List ApiAssign)) :=
  (andThen
    (loopM (fun (s163 : (List ApiAssign) × Int) =>
      (if s163.2 < (List.length p0 : Int) then
        (andThen
          (ck ((0 : Int) ≤ s163.2 ∧ s163.2 < (List.length p0 : Int)) (
            Option.bind (m_household_Owner_1 N (ix p0 s163.2) p1c0 p1c1) fun r183 => (if r183 = true then
              ck ((List.length s163.1 + List.length ([(ix p0 s163.2)])) * 32 ≤ 140737488355328) (
                some (.next (s163.1 ++ ([(ix p0 s163.2)]))))
            else
              some (.next s163.1))))
        fun (s179 : (List ApiAssign)) =>
          ck (I64 (s163.2 + (1 : Int))) (
            some (.next (s179, (s163.2 + (1 : Int))))))
      else
        some (.done (.next s163.1)))) N (([] : List ApiAssign), (0 : Int)))
  fun (s97 : (List ApiAssign)) =>
    some (s97))
set_option maxRecDepth 20000 in
theorem m_household_chosen_household_Owner_1_ok (N : Nat) (w0 : World) (p0 : (List ApiAssign)) (p1c0 : Int) (p1c1 : Int) (A_p0 : Option Addr) (n_p0 c_p0 : Nat) (b_p1c0 : Nat) (b_p1c1 : Nat) (hr_p0 : RdE w0 4 encApiAssign A_p0 p0) (hz_p0 : SW A_p0 n_p0 c_p0 (List.length p0)) (hb_p1c0 : Blk w0 b_p1c0 3 [.int .i64 p1c0]) (hb_p1c1 : Blk w0 b_p1c1 3 [.int .i64 p1c1]) (r : (List ApiAssign)) (hr : m_household_chosen_household_Owner_1 N p0 p1c0 p1c1 = some r) :
    Calls Try.prog 42 [.slice A_p0 n_p0 c_p0, .func (.func 43) #[] #[.pointer (some ⟨b_p1c0, 0, none⟩), .pointer (some ⟨b_p1c1, 0, none⟩)]].toArray w0 fun x w1 => ∃ u, x = .returned ((fun (_r : (List ApiAssign)) (u : (Option Addr) × Nat × Nat) => .slice u.1 u.2.1 u.2.2) r u) ∧ Hs w0 ((fun (r : (List ApiAssign)) (u : (Option Addr) × Nat × Nat) => [ownE 51 4 encApiAssign u.1 u.2.1 u.2.2 r]) r u) w1 := by
  refine calls_cm (n := 23) (R := fun r x w1 => ∃ u, x = .returned ((fun (_r : (List ApiAssign)) (u : (Option Addr) × Nat × Nat) => .slice u.1 u.2.1 u.2.2) r u) ∧ Hs w0 ((fun (r : (List ApiAssign)) (u : (Option Addr) × Nat × Nat) => [ownE 51 4 encApiAssign u.1 u.2.1 u.2.2 r]) r u) w1) Try.func42 rfl rfl (Nat.le_of_ble_eq_true rfl) ?_ r hr
  unfold m_household_chosen_household_Owner_1
  refine cm_seq ?_
  refine cm_region ?_
  refine lm_val 4 (by kernel_rfl) (fun w1 c1 => (op_assign (v := .slice _ _ _) rfl)) ?_
  refine lm_nil ?_
  refine xm_next ?_
  refine cm_seq ?_
  refine cm_region ?_
  refine lm_val 5 (by kernel_rfl) (fun w1 c1 => (op_assign (v := .slice _ _ _) rfl)) ?_
  refine lm_nil ?_
  refine xm_next ?_
  refine cm_join (σ := (List ApiAssign)) (ξ := (Option Addr) × Nat × Nat) (fun s97 u98 => [(5, .slice u98.1 u98.2.1 u98.2.2)]) (fun s97 u98 => [ownE 51 4 encApiAssign u98.1 u98.2.1 u98.2.2 s97]) ?_ ?_
  · skip
    refine cm_seq ?_
    refine cm_region ?_
    refine lm_val 8 (by kernel_rfl) (fun w1 c1 => (op_move (v := .slice _ _ _) rfl)) ?_
    refine lm_val 9 (by kernel_rfl) (fun w1 c1 => (op_lenN rfl (by kernel_rfl) hz_p0.2.2)) ?_
    refine lm_val 10 (by kernel_rfl) (fun w1 c1 => (op_move (v := .int .i64 _) rfl)) ?_
    refine lm_nil ?_
    refine xm_next ?_
    refine cm_block ?_
    refine cm_nilrow 51 4 encApiAssign ?_
    refine cm_loop (σ := (List ApiAssign) × Int) (ξ := (Option Addr) × Nat × Nat) (fun s163 u164 => [(1, .func (.func 43) #[] #[.pointer (some ⟨b_p1c0, 0, none⟩), .pointer (some ⟨b_p1c1, 0, none⟩)]), (5, .slice u164.1 u164.2.1 u164.2.2), (8, .slice A_p0 n_p0 c_p0), (9, .int .i64 (List.length p0 : Int)), (10, .int .i64 s163.2)]) (fun s163 u164 => [ownE 51 4 encApiAssign u164.1 u164.2.1 u164.2.2 s163.1]) (none, 0, 0) ?_ ?_ ?_
    · exact (sub_cons (by kernel_rfl) rfl (sub_cons (by kernel_rfl) rfl (sub_cons (by kernel_rfl) rfl (sub_cons (by kernel_rfl) rfl (sub_cons (by kernel_rfl) rfl sub_nil)))))
    · exact hsub [0] (by kernel_rfl) rfl
    intro s163 u164
    refine cm_seq ?_
    refine cm_region ?_
    refine lm_val 11 (by kernel_rfl) (fun w1 c1 => (op_lss rfl rfl)) ?_
    refine lm_nil ?_
    refine xm_next ?_
    refine cm_seq ?_
    refine cm_cond (by kernel_rfl) rfl (fun h165 => ?_) (fun h165 => ?_)
    · skip
      refine cm_skip ?_
      refine xm_next ?_
      refine cm_join (σ := (List ApiAssign)) (ξ := (Option Addr) × Nat × Nat) (fun s179 u180 => [(1, .func (.func 43) #[] #[.pointer (some ⟨b_p1c0, 0, none⟩), .pointer (some ⟨b_p1c1, 0, none⟩)]), (5, .slice u180.1 u180.2.1 u180.2.2), (8, .slice A_p0 n_p0 c_p0), (9, .int .i64 (List.length p0 : Int)), (10, .int .i64 s163.2)]) (fun s179 u180 => [ownE 51 4 encApiAssign u180.1 u180.2.1 u180.2.2 s179]) ?_ ?_
      · skip
        refine cm_block ?_
        refine cm_seq ?_
        refine cm_region ?_
        refine lm_ck (fun h181 => ?_)
        refine lm_val 12 (by kernel_rfl) (fun w1 c1 => (op_indexA 4 rfl rfl (by kernel_rfl) ((hr_p0.old c1).addr h181.1 h181.2) hz_p0.2.2 h181.1 h181.2)) ?_
        refine lm_val 13 (by kernel_rfl) (fun w1 c1 => (op_loadR [.int .i64 ((ix p0 s163.2).Container), .int .i64 ((ix p0 s163.2).Household), .int .i64 ((ix p0 s163.2).When.From), .int .i64 ((ix p0 s163.2).When.To)] rfl (by kernel_rfl) ((hr_p0.old c1).row h181.1 h181.2))) ?_
        refine lm_alloc 7 [.int .i64 0, .int .i64 0, .int .i64 0, .int .i64 0] (v := .agg #[.int .i64 0, .int .i64 0, .int .i64 0, .int .i64 0]) (by kernel_rfl) (by kernel_rfl) rfl ?_
        intro b182
        refine lm_storeA 0 [.int .i64 _, .int .i64 _, .int .i64 _, .int .i64 _] [_, _, _, _] (H' := [blkE _ _ [_, _, _, _], _]) (by kernel_rfl) rfl rfl (by kernel_rfl) rfl rfl (by kernel_rfl) rfl rfl ?_
        refine lm_nil ?_
        refine xm_next ?_
        refine cm_seq ?_
        refine cm_region ?_
        refine lm_val 14 (by kernel_rfl) (fun w1 c1 => (op_move (v := .func _ _ _) rfl)) ?_
        refine lm_val 15 (by kernel_rfl) (fun w1 c1 => (op_loadR [.int .i64 _, .int .i64 _, .int .i64 _, .int .i64 _] rfl (by kernel_rfl) (c1.cells 0 rfl rfl))) ?_
        refine lm_call 16 (V := (fun (r : Bool) (_u : Unit) => .bool r)) (HR := (fun (_r : Bool) (_u : Unit) => [])) (by kernel_rfl) (fun w1 => op_callv rfl (by kernel_rfl)) (fun r1 hr1 w1 c1 => m_household_Owner_1_ok N w1 (ix p0 s163.2) p1c0 p1c1 b_p1c0 b_p1c1 (c1.oblk hb_p1c0) (c1.oblk hb_p1c1) r1 hr1) ?_
        intro r183 u184
        refine lm_nil ?_
        refine xm_next ?_
        refine cm_condB (by kernel_rfl) rfl (fun h185 => ?_) (fun h185 => ?_)
        · skip
          refine cm_region ?_
          refine lm_val 17 (by kernel_rfl) (fun w1 c1 => (op_move (v := .slice _ _ _) rfl)) ?_
          refine lm_val 18 (by kernel_rfl) (fun w1 c1 => (op_loadR [.int .i64 _, .int .i64 _, .int .i64 _, .int .i64 _] rfl (by kernel_rfl) (c1.cells 0 rfl rfl))) ?_
          refine lm_slice1 19 (el := 51) (sz := 4) (bytes := 32) (enc := encApiAssign) (ix p0 s163.2) (by kernel_rfl) (by kernel_rfl) encApiAssign_len rfl (by kernel_rfl) ?_
          intro A186 n187 k188 h189
          refine lm_ck (fun h190 => ?_)
          refine lm_append 20 2 (el := 51) (sz := 4) (bytes := 32) (enc := encApiAssign) (l2 := ([(ix p0 s163.2)])) (by kernel_rfl) (by kernel_rfl) encApiAssign_len encApiAssign_one rfl rfl rfl (fun w1 c1 => (c1.ownZ 0 rfl)) (fun w1 c1 => (c1.own 0 rfl encApiAssign_len)) h190 ?_ (by kernel_rfl)
          intro A191 n192 k193
          refine lm_val 5 (by kernel_rfl) (fun w1 c1 => (op_assign (v := .slice _ _ _) rfl)) ?_
          refine lm_nil ?_
          refine xm_inN ?_
          exact xm_lnext (A191, n192, k193) (sub_cons (by kernel_rfl) rfl (sub_cons (by kernel_rfl) rfl (sub_cons (by kernel_rfl) rfl (sub_cons (by kernel_rfl) rfl (sub_cons (by kernel_rfl) rfl sub_nil))))) (hsub [2] (by kernel_rfl) rfl)
        · skip
          refine cm_skip ?_
          refine xm_inN ?_
          exact xm_lnext (u164.1, u164.2.1, u164.2.2) (sub_cons (by kernel_rfl) rfl (sub_cons (by kernel_rfl) rfl (sub_cons (by kernel_rfl) rfl (sub_cons (by kernel_rfl) rfl (sub_cons (by kernel_rfl) rfl sub_nil))))) (hsub [1] (by kernel_rfl) rfl)
      intro s179 u180
      refine cm_region ?_
      refine lm_ck (fun h194 => ?_)
      refine lm_val 21 (by kernel_rfl) (fun w1 c1 => (op_add rfl rfl h194)) ?_
      refine lm_val 10 (by kernel_rfl) (fun w1 c1 => (op_move (v := .int .i64 _) rfl)) ?_
      refine lm_nil ?_
      exact xm_lnext (u180.1, u180.2.1, u180.2.2) (sub_cons (by kernel_rfl) rfl (sub_cons (by kernel_rfl) rfl (sub_cons (by kernel_rfl) rfl (sub_cons (by kernel_rfl) rfl (sub_cons (by kernel_rfl) rfl sub_nil))))) (hsub [0] (by kernel_rfl) rfl)
    · skip
      refine cm_exit ?_
      refine xm_thenE ?_
      refine xm_lexit ?_
      refine xm_here ?_
      exact xm_lnext (u164.1, u164.2.1, u164.2.2) (sub_cons (by kernel_rfl) rfl sub_nil) (hsub [0] (by kernel_rfl) rfl)
  intro s97 u98
  refine cm_seq ?_
  refine cm_region ?_
  refine lm_val 22 (by kernel_rfl) (fun w1 c1 => (op_move (v := .slice _ _ _) rfl)) ?_
  refine lm_val 4 (by kernel_rfl) (fun w1 c1 => (op_assign (v := .slice _ _ _) rfl)) ?_
  refine lm_nil ?_
  refine xm_next ?_
  refine cm_ret ?_
  exact xm_retT rfl (by kernel_rfl) (show _ = Value.slice _ _ _ from rfl) fun w1 c1 => ⟨(u98.1, u98.2.1, u98.2.2), rfl, hsub [0] (by kernel_rfl) rfl w1 c1⟩
/-- household.Owner -/
def m_household_Owner (N : Nat) (p0 : (List ApiAssign)) (p1 : Int) (p2 : Int) : Option (Int × Bool) :=
  Option.bind (m_household_chosen_household_Owner_1 N p0 p1 p2) fun r3 => (if (List.length r3 : Int) = 0 then
    some (((0 : Int), false))
  else
    ck ((0 : Int) ≤ 0 ∧ 0 < (List.length r3 : Int)) (
      some (((ix r3 0).Household, true))))
set_option maxRecDepth 20000 in
theorem m_household_Owner_ok (N : Nat) (w0 : World) (p0 : (List ApiAssign)) (p1 : Int) (p2 : Int) (A_p0 : Option Addr) (n_p0 c_p0 : Nat) (hr_p0 : RdE w0 4 encApiAssign A_p0 p0) (hz_p0 : SW A_p0 n_p0 c_p0 (List.length p0)) (r : Int × Bool) (hr : m_household_Owner N p0 p1 p2 = some r) :
    Calls Try.prog 31 [.slice A_p0 n_p0 c_p0, .int .i64 p1, .int .i64 p2].toArray w0 fun x w1 => ∃ u, x = .returned ((fun (r : Int × Bool) (_u : Unit) => .tuple #[.int .i64 r.1, .bool r.2]) r u) ∧ Hs w0 ((fun (_r : Int × Bool) (_u : Unit) => []) r u) w1 := by
  refine calls_cm (n := 19) (R := fun r x w1 => ∃ u, x = .returned ((fun (r : Int × Bool) (_u : Unit) => .tuple #[.int .i64 r.1, .bool r.2]) r u) ∧ Hs w0 ((fun (_r : Int × Bool) (_u : Unit) => []) r u) w1) Try.func31 rfl rfl (Nat.le_of_ble_eq_true rfl) ?_ r hr
  unfold m_household_Owner
  refine cm_seq ?_
  refine cm_region ?_
  refine lm_box 4 [.int .i64 _] (by kernel_rfl) rfl ?_
  intro b1
  refine lm_box 5 [.int .i64 _] (by kernel_rfl) rfl ?_
  intro b2
  refine lm_val 6 (by kernel_rfl) (fun w1 c1 => (op_assign (v := .int .i64 _) rfl)) ?_
  refine lm_val 7 (by kernel_rfl) (fun w1 c1 => (op_assign (v := .bool false) rfl)) ?_
  refine lm_nil ?_
  refine xm_next ?_
  refine cm_seq ?_
  refine cm_region ?_
  refine lm_val 9 (by kernel_rfl) (fun w1 c1 => (op_move (v := .slice _ _ _) rfl)) ?_
  refine lm_val 10 (by kernel_rfl) (fun w1 c1 => (op_makeFuncC [.pointer (some ⟨_, _, _⟩), .pointer (some ⟨_, _, _⟩)] rfl)) ?_
  refine lm_call 11 (V := (fun (_r : (List ApiAssign)) (u : (Option Addr) × Nat × Nat) => .slice u.1 u.2.1 u.2.2)) (HR := (fun (r : (List ApiAssign)) (u : (Option Addr) × Nat × Nat) => [ownE 51 4 encApiAssign u.1 u.2.1 u.2.2 r])) (by kernel_rfl) (fun w1 => op_call (by kernel_rfl)) (fun r1 hr1 w1 c1 => m_household_chosen_household_Owner_1_ok N w1 p0 p1 p2 A_p0 n_p0 c_p0 b1 b2 (hr_p0.old c1) hz_p0 (c1.blk 1 rfl) (c1.blk 0 rfl) r1 hr1) ?_
  intro r3 u4
  refine lm_val 8 (by kernel_rfl) (fun w1 c1 => (op_assign (v := .slice _ _ _) rfl)) ?_
  refine lm_nil ?_
  refine xm_next ?_
  refine cm_seq ?_
  refine cm_seq ?_
  refine cm_region ?_
  refine lm_val 12 (by kernel_rfl) (fun w1 c1 => (op_move (v := .slice _ _ _) rfl)) ?_
  refine lm_val 13 (by kernel_rfl) (fun w1 c1 => (op_lenN rfl (by kernel_rfl) (c1.ownZ 0 rfl).2.2)) ?_
  refine lm_val 14 (by kernel_rfl) (fun w1 c1 => (op_eql rfl rfl)) ?_
  refine lm_nil ?_
  refine xm_next ?_
  refine cm_cond (by kernel_rfl) rfl (fun h5 => ?_) (fun h5 => ?_)
  · skip
    refine cm_seq ?_
    refine cm_region ?_
    refine lm_val 6 (by kernel_rfl) (fun w1 c1 => (op_assign (v := .int .i64 _) rfl)) ?_
    refine lm_val 7 (by kernel_rfl) (fun w1 c1 => (op_assign (v := .bool false) rfl)) ?_
    refine lm_nil ?_
    refine xm_next ?_
    refine cm_ret ?_
    refine xm_thenR ?_
    exact xm_retTT rfl (by kernel_rfl) (show _ = Value.int .i64 _ from rfl) (by kernel_rfl) (show _ = Value.bool false from rfl) fun w1 c1 => ⟨(), rfl, hsub [] (by kernel_rfl) rfl w1 c1⟩
  · skip
    refine cm_skip ?_
    refine xm_next ?_
    refine cm_seq ?_
    refine cm_region ?_
    refine lm_val 15 (by kernel_rfl) (fun w1 c1 => (op_move (v := .slice _ _ _) rfl)) ?_
    refine lm_ck (fun h6 => ?_)
    refine lm_val 16 (by kernel_rfl) (fun w1 c1 => (op_indexA 4 rfl rfl (by kernel_rfl) ((c1.own 0 rfl encApiAssign_len).addr h6.1 h6.2) (c1.ownZ 0 rfl).2.2 h6.1 h6.2)) ?_
    refine lm_val 17 (by kernel_rfl) (fun w1 c1 => (op_field (m := 1) rfl (by kernel_rfl))) ?_
    refine lm_val 18 (by kernel_rfl) (fun w1 c1 => (op_load (v := .int .i64 ((ix r3 0).Household)) rfl (by kernel_rfl) ((c1.own 0 rfl encApiAssign_len).cell (j := 1) h6.1 h6.2 rfl))) ?_
    refine lm_val 6 (by kernel_rfl) (fun w1 c1 => (op_assign (v := .int .i64 _) rfl)) ?_
    refine lm_val 7 (by kernel_rfl) (fun w1 c1 => (op_assign (v := .bool true) rfl)) ?_
    refine lm_nil ?_
    refine xm_next ?_
    refine cm_ret ?_
    exact xm_retTT rfl (by kernel_rfl) (show _ = Value.int .i64 _ from rfl) (by kernel_rfl) (show _ = Value.bool true from rfl) fun w1 c1 => ⟨(), rfl, hsub [] (by kernel_rfl) rfl w1 c1⟩
/-- emptying.Of$1 -/
def m_emptying_Of_1 (N : Nat) (p0 : Int) (q0 : (List ApiAssign)) (q1 : (List ApiEmptying)) (q2 : ApiWindow) (q3 : Int) : Option (Bool) :=
  ck ((0 : Int) ≤ p0 ∧ p0 < (List.length q1 : Int)) (
    ck ((0 : Int) ≤ p0 ∧ p0 < (List.length q1 : Int)) (
      Option.bind (m_household_Owner N q0 ((ix q1 p0).Container) ((ix q1 p0).At)) fun r3 => ck ((0 : Int) ≤ p0 ∧ p0 < (List.length q1 : Int)) (
        Option.bind (m_emptying_in N q2 ((ix q1 p0).At)) fun r6 => some ((((!r6) || (!r3.2)) || (decide (r3.1 ≠ q3)))))))
set_option maxRecDepth 20000 in
theorem m_emptying_Of_1_ok (N : Nat) (w0 : World) (p0 : Int) (q0 : (List ApiAssign)) (q1 : (List ApiEmptying)) (q2 : ApiWindow) (q3 : Int) (b_q0 : Nat) (A_q01 : Option Addr) (n_q01 c_q01 : Nat) (b_q1 : Nat) (A_q11 : Option Addr) (n_q11 c_q11 : Nat) (b_q2 : Nat) (b_q3 : Nat) (hb_q0 : Blk w0 b_q0 33 [.slice A_q01 n_q01 c_q01]) (hr_q01 : RdE w0 4 encApiAssign A_q01 q0) (hz_q01 : SW A_q01 n_q01 c_q01 (List.length q0)) (hb_q1 : Blk w0 b_q1 22 [.slice A_q11 n_q11 c_q11]) (hr_q11 : RdE w0 7 encApiEmptying A_q11 q1) (hz_q11 : SW A_q11 n_q11 c_q11 (List.length q1)) (hb_q2 : Blk w0 b_q2 35 [.int .i64 q2.From, .int .i64 q2.To]) (hb_q3 : Blk w0 b_q3 3 [.int .i64 q3]) (r : Bool) (hr : m_emptying_Of_1 N p0 q0 q1 q2 q3 = some r) :
    Calls Try.prog 30 [.int .i64 p0, .pointer (some ⟨b_q0, 0, none⟩), .pointer (some ⟨b_q1, 0, none⟩), .pointer (some ⟨b_q2, 0, none⟩), .pointer (some ⟨b_q3, 0, none⟩)].toArray w0 fun x w1 => ∃ u, x = .returned ((fun (r : Bool) (_u : Unit) => .bool r) r u) ∧ Hs w0 ((fun (_r : Bool) (_u : Unit) => []) r u) w1 := by
  refine calls_cm (n := 41) (R := fun r x w1 => ∃ u, x = .returned ((fun (r : Bool) (_u : Unit) => .bool r) r u) ∧ Hs w0 ((fun (_r : Bool) (_u : Unit) => []) r u) w1) Try.func30 rfl rfl (Nat.le_of_ble_eq_true rfl) ?_ r hr
  unfold m_emptying_Of_1
  refine cm_seq ?_
  refine cm_region ?_
  refine lm_val 6 (by kernel_rfl) (fun w1 c1 => (op_assign (v := .bool false) rfl)) ?_
  refine lm_nil ?_
  refine xm_next ?_
  refine cm_seq ?_
  refine cm_ck (fun h1 => ?_)
  refine cm_ck (fun h2 => ?_)
  refine cm_bind fun r3 h4 => ?_
  refine cm_drawn [(7, .int .i64 r3.1), (8, .bool r3.2)] (by kernel_rfl) (by kernel_rfl) ?_ ?_
  · skip
    refine wq_val 10 (by kernel_rfl) (fun w1 c1 => (op_load rfl (by kernel_rfl) (c1.ocell (hb_q0.at_ 0 (u := .slice _ _ _) rfl)))) ?_
    refine wq_val 11 (by kernel_rfl) (fun w1 c1 => (op_load rfl (by kernel_rfl) (c1.ocell (hb_q1.at_ 0 (u := .slice _ _ _) rfl)))) ?_
    refine wq_val 12 (by kernel_rfl) (fun w1 c1 => (op_move (v := .int .i64 _) rfl)) ?_
    refine wq_val 13 (by kernel_rfl) (fun w1 c1 => (op_indexA 7 rfl rfl (by kernel_rfl) ((hr_q11.old c1).addr h1.1 h1.2) hz_q11.2.2 h1.1 h1.2)) ?_
    refine wq_val 14 (by kernel_rfl) (fun w1 c1 => (op_field (m := 1) rfl (by kernel_rfl))) ?_
    refine wq_val 15 (by kernel_rfl) (fun w1 c1 => (op_load (v := .int .i64 ((ix q1 p0).Container)) rfl (by kernel_rfl) ((hr_q11.old c1).cell (j := 1) h1.1 h1.2 rfl))) ?_
    refine wq_val 16 (by kernel_rfl) (fun w1 c1 => (op_load rfl (by kernel_rfl) (c1.ocell (hb_q1.at_ 0 (u := .slice _ _ _) rfl)))) ?_
    refine wq_val 17 (by kernel_rfl) (fun w1 c1 => (op_move (v := .int .i64 _) rfl)) ?_
    refine wq_val 18 (by kernel_rfl) (fun w1 c1 => (op_indexA 7 rfl rfl (by kernel_rfl) ((hr_q11.old c1).addr h2.1 h2.2) hz_q11.2.2 h2.1 h2.2)) ?_
    refine wq_val 19 (by kernel_rfl) (fun w1 c1 => (op_field (m := 3) rfl (by kernel_rfl))) ?_
    refine wq_val 20 (by kernel_rfl) (fun w1 c1 => (op_load (v := .int .i64 ((ix q1 p0).At)) rfl (by kernel_rfl) ((hr_q11.old c1).cell (j := 3) h2.1 h2.2 rfl))) ?_
    refine wq_call 21 (by kernel_rfl) (fun w1 c1 => op_call (by kernel_rfl)) (fun w1 c1 => (m_household_Owner_ok N w1 q0 ((ix q1 p0).Container) ((ix q1 p0).At) A_q01 n_q01 c_q01 (hr_q01.old c1) hz_q01 r3 h4).mono (fun _ _ ⟨_, hx, hu⟩ => ⟨hx, c1.call hu⟩)) ?_
    refine wq_val 9 (by kernel_rfl) (fun w1 c1 => (op_move (v := .tuple _) rfl)) ?_
    refine wq_val 22 (by kernel_rfl) (fun w1 c1 => (op_extract (v := .int .i64 _) rfl rfl)) ?_
    refine wq_val 23 (by kernel_rfl) (fun w1 c1 => (op_extract (v := .bool _) rfl rfl)) ?_
    refine wq_val 7 (by kernel_rfl) (fun w1 c1 => (op_assign (v := .int .i64 _) rfl)) ?_
    refine wq_val 8 (by kernel_rfl) (fun w1 c1 => (op_assign (v := .bool _) rfl)) ?_
    exact leaf_q (sub_out 17 _ rfl (by kernel_rfl) ⟨rfl, rfl, trivial⟩)
  refine xm_next ?_
  refine cm_seq ?_
  refine cm_ck (fun h5 => ?_)
  refine cm_bind fun r6 h7 => ?_
  refine cm_drawn [(6, .bool (((!r6) || (!r3.2)) || (decide (r3.1 ≠ q3))))] (by kernel_rfl) (by kernel_rfl) ?_ ?_
  · skip
    refine wq_val 24 (by kernel_rfl) (fun w1 c1 => (op_loadR [.int .i64 _, .int .i64 _] rfl (by kernel_rfl) (c1.ocells hb_q2 rfl))) ?_
    refine wq_val 25 (by kernel_rfl) (fun w1 c1 => (op_load rfl (by kernel_rfl) (c1.ocell (hb_q1.at_ 0 (u := .slice _ _ _) rfl)))) ?_
    refine wq_val 26 (by kernel_rfl) (fun w1 c1 => (op_move (v := .int .i64 _) rfl)) ?_
    refine wq_val 27 (by kernel_rfl) (fun w1 c1 => (op_indexA 7 rfl rfl (by kernel_rfl) ((hr_q11.old c1).addr h5.1 h5.2) hz_q11.2.2 h5.1 h5.2)) ?_
    refine wq_val 28 (by kernel_rfl) (fun w1 c1 => (op_field (m := 3) rfl (by kernel_rfl))) ?_
    refine wq_val 29 (by kernel_rfl) (fun w1 c1 => (op_load (v := .int .i64 ((ix q1 p0).At)) rfl (by kernel_rfl) ((hr_q11.old c1).cell (j := 3) h5.1 h5.2 rfl))) ?_
    refine wq_callb 30 (by kernel_rfl) (fun w1 c1 => op_call (by kernel_rfl)) (fun w1 c1 => (m_emptying_in_ok N w1 q2 ((ix q1 p0).At)  r6 h7).mono (fun _ _ ⟨_, hx, hu⟩ => ⟨hx, c1.call hu⟩)) (fun h8 => ?_) (fun h8 => ?_)
    · skip
      refine wq_val 31 (by kernel_rfl) (fun w1 c1 => (op_nott rfl)) ?_
      refine wq_val 32 (by kernel_rfl) (fun w1 c1 => (op_move (v := .bool false) rfl)) ?_
      refine wq_bool 33 (by kernel_rfl) (fun w1 c1 => (op_move (v := .bool _) rfl)) (fun h9 => ?_) (fun h9 => ?_)
      · skip
        refine wq_val 34 (by kernel_rfl) (fun w1 c1 => (op_nott rfl)) ?_
        refine wq_val 35 (by kernel_rfl) (fun w1 c1 => (op_pick_f (v := .bool false) rfl rfl)) ?_
        refine wq_val 36 (by kernel_rfl) (fun w1 c1 => (op_move (v := .bool false) rfl)) ?_
        refine wq_val 37 (by kernel_rfl) (fun w1 c1 => (op_move (v := .int .i64 _) rfl)) ?_
        refine wq_val 38 (by kernel_rfl) (fun w1 c1 => (op_load rfl (by kernel_rfl) (c1.ocell (hb_q3.at_ 0 (u := .int .i64 _) rfl)))) ?_
        refine wq_val 39 (by kernel_rfl) (fun w1 c1 => (op_neq rfl rfl)) ?_
        refine wq_val 40 (by kernel_rfl) (fun w1 c1 => (op_pick_f (v := .bool _) rfl rfl)) ?_
        refine wq_val 6 (by kernel_rfl) (fun w1 c1 => (op_assign (v := .bool _) rfl)) ?_
        exact leaf_q (sub_out 18 _ rfl (by kernel_rfl) ⟨(congrArg Value.bool (by rw [h8, h9] <;> rfl)), trivial⟩)
      · skip
        refine wq_val 34 (by kernel_rfl) (fun w1 c1 => (op_notf rfl)) ?_
        refine wq_val 35 (by kernel_rfl) (fun w1 c1 => (op_pick_f (v := .bool true) rfl rfl)) ?_
        refine wq_val 36 (by kernel_rfl) (fun w1 c1 => (op_move (v := .bool true) rfl)) ?_
        refine wq_skip 37 (by kernel_rfl) ?_
        refine wq_skip 38 (by kernel_rfl) ?_
        refine wq_skip 39 (by kernel_rfl) ?_
        refine wq_val 40 (by kernel_rfl) (fun w1 c1 => (op_pick_t (v := .bool true) rfl rfl)) ?_
        refine wq_val 6 (by kernel_rfl) (fun w1 c1 => (op_assign (v := .bool true) rfl)) ?_
        exact leaf_q (sub_out 18 _ rfl (by kernel_rfl) ⟨(congrArg Value.bool (by rw [h8, h9] <;> rfl)), trivial⟩)
    · skip
      refine wq_val 31 (by kernel_rfl) (fun w1 c1 => (op_notf rfl)) ?_
      refine wq_val 32 (by kernel_rfl) (fun w1 c1 => (op_move (v := .bool true) rfl)) ?_
      refine wq_skip 33 (by kernel_rfl) ?_
      refine wq_skip 34 (by kernel_rfl) ?_
      refine wq_val 35 (by kernel_rfl) (fun w1 c1 => (op_pick_t (v := .bool true) rfl rfl)) ?_
      refine wq_val 36 (by kernel_rfl) (fun w1 c1 => (op_move (v := .bool true) rfl)) ?_
      refine wq_skip 37 (by kernel_rfl) ?_
      refine wq_skip 38 (by kernel_rfl) ?_
      refine wq_skip 39 (by kernel_rfl) ?_
      refine wq_val 40 (by kernel_rfl) (fun w1 c1 => (op_pick_t (v := .bool true) rfl rfl)) ?_
      refine wq_val 6 (by kernel_rfl) (fun w1 c1 => (op_assign (v := .bool true) rfl)) ?_
      exact leaf_q (sub_out 18 _ rfl (by kernel_rfl) ⟨(congrArg Value.bool (by rw [h8] <;> rfl)), trivial⟩)
  refine xm_next ?_
  refine cm_ret ?_
  exact xm_retT rfl (by kernel_rfl) (show _ = Value.bool _ from rfl) fun w1 c1 => ⟨(), rfl, hsub [] (by kernel_rfl) rfl w1 c1⟩
/-- slices.IndexFunc -/
def m_slices_IndexFunc_emptying_Of_1 (N : Nat) (p0 : (List Int)) (p1c0 : (List ApiAssign)) (p1c1 : (List ApiEmptying)) (p1c2 : ApiWindow) (p1c3 : Int) : Option (Int) :=
  (andThen
    (loopM (fun (s43 : Int) =>
      (if s43 < (List.length p0 : Int) then
        ck ((0 : Int) ≤ s43 ∧ s43 < (List.length p0 : Int)) (
          Option.bind (m_emptying_Of_1 N (ix p0 s43) p1c0 p1c1 p1c2 p1c3) fun r47 => (if r47 = true then
            some (.done (.done (s43)))
          else
            ck (I64 (s43 + (1 : Int))) (
              some (.next (s43 + (1 : Int))))))
      else
        some (.done (.next ())))) N (0 : Int))
  fun (_s25 : Unit) =>
    some ((-1 : Int)))
set_option maxRecDepth 20000 in
theorem m_slices_IndexFunc_emptying_Of_1_ok (N : Nat) (w0 : World) (p0 : (List Int)) (p1c0 : (List ApiAssign)) (p1c1 : (List ApiEmptying)) (p1c2 : ApiWindow) (p1c3 : Int) (A_p0 : Option Addr) (n_p0 c_p0 : Nat) (b_p1c0 : Nat) (A_p1c01 : Option Addr) (n_p1c01 c_p1c01 : Nat) (b_p1c1 : Nat) (A_p1c11 : Option Addr) (n_p1c11 c_p1c11 : Nat) (b_p1c2 : Nat) (b_p1c3 : Nat) (hr_p0 : RdE w0 1 encI A_p0 p0) (hz_p0 : SW A_p0 n_p0 c_p0 (List.length p0)) (hb_p1c0 : Blk w0 b_p1c0 33 [.slice A_p1c01 n_p1c01 c_p1c01]) (hr_p1c01 : RdE w0 4 encApiAssign A_p1c01 p1c0) (hz_p1c01 : SW A_p1c01 n_p1c01 c_p1c01 (List.length p1c0)) (hb_p1c1 : Blk w0 b_p1c1 22 [.slice A_p1c11 n_p1c11 c_p1c11]) (hr_p1c11 : RdE w0 7 encApiEmptying A_p1c11 p1c1) (hz_p1c11 : SW A_p1c11 n_p1c11 c_p1c11 (List.length p1c1)) (hb_p1c2 : Blk w0 b_p1c2 35 [.int .i64 p1c2.From, .int .i64 p1c2.To]) (hb_p1c3 : Blk w0 b_p1c3 3 [.int .i64 p1c3]) (r : Int) (hr : m_slices_IndexFunc_emptying_Of_1 N p0 p1c0 p1c1 p1c2 p1c3 = some r) :
    Calls Try.prog 41 [.slice A_p0 n_p0 c_p0, .func (.func 30) #[] #[.pointer (some ⟨b_p1c0, 0, none⟩), .pointer (some ⟨b_p1c1, 0, none⟩), .pointer (some ⟨b_p1c2, 0, none⟩), .pointer (some ⟨b_p1c3, 0, none⟩)]].toArray w0 fun x w1 => ∃ u, x = .returned ((fun (r : Int) (_u : Unit) => .int .i64 r) r u) ∧ Hs w0 ((fun (_r : Int) (_u : Unit) => []) r u) w1 := by
  refine calls_cm (n := 19) (R := fun r x w1 => ∃ u, x = .returned ((fun (r : Int) (_u : Unit) => .int .i64 r) r u) ∧ Hs w0 ((fun (_r : Int) (_u : Unit) => []) r u) w1) Try.func41 rfl rfl (Nat.le_of_ble_eq_true rfl) ?_ r hr
  unfold m_slices_IndexFunc_emptying_Of_1
  refine cm_seq ?_
  refine cm_region ?_
  refine lm_val 4 (by kernel_rfl) (fun w1 c1 => (op_assign (v := .int .i64 _) rfl)) ?_
  refine lm_nil ?_
  refine xm_next ?_
  refine cm_join (σ := Unit) (ξ := Unit) (fun s25 u26 => []) (fun s25 u26 => []) ?_ ?_
  · skip
    refine cm_seq ?_
    refine cm_region ?_
    refine lm_val 6 (by kernel_rfl) (fun w1 c1 => (op_move (v := .slice _ _ _) rfl)) ?_
    refine lm_val 7 (by kernel_rfl) (fun w1 c1 => (op_lenN rfl (by kernel_rfl) hz_p0.2.2)) ?_
    refine lm_val 8 (by kernel_rfl) (fun w1 c1 => (op_move (v := .int .i64 _) rfl)) ?_
    refine lm_nil ?_
    refine xm_next ?_
    refine cm_block ?_
    refine cm_loop (σ := Int) (ξ := Unit) (fun s43 u44 => [(0, .slice A_p0 n_p0 c_p0), (1, .func (.func 30) #[] #[.pointer (some ⟨b_p1c0, 0, none⟩), .pointer (some ⟨b_p1c1, 0, none⟩), .pointer (some ⟨b_p1c2, 0, none⟩), .pointer (some ⟨b_p1c3, 0, none⟩)]), (7, .int .i64 (List.length p0 : Int)), (8, .int .i64 s43)]) (fun s43 u44 => []) () ?_ ?_ ?_
    · exact (sub_cons (by kernel_rfl) rfl (sub_cons (by kernel_rfl) rfl (sub_cons (by kernel_rfl) rfl (sub_cons (by kernel_rfl) rfl sub_nil))))
    · exact hsub [] (by kernel_rfl) rfl
    intro s43 u44
    refine cm_seq ?_
    refine cm_region ?_
    refine lm_val 9 (by kernel_rfl) (fun w1 c1 => (op_lss rfl rfl)) ?_
    refine lm_nil ?_
    refine xm_next ?_
    refine cm_seq ?_
    refine cm_cond (by kernel_rfl) rfl (fun h45 => ?_) (fun h45 => ?_)
    · skip
      refine cm_skip ?_
      refine xm_next ?_
      refine cm_seq ?_
      refine cm_block ?_
      refine cm_seq ?_
      refine cm_region ?_
      refine lm_val 10 (by kernel_rfl) (fun w1 c1 => (op_move (v := .int .i64 _) rfl)) ?_
      refine lm_val 5 (by kernel_rfl) (fun w1 c1 => (op_assign (v := .int .i64 _) rfl)) ?_
      refine lm_nil ?_
      refine xm_next ?_
      refine cm_seq ?_
      refine cm_region ?_
      refine lm_val 11 (by kernel_rfl) (fun w1 c1 => (op_move (v := .func _ _ _) rfl)) ?_
      refine lm_val 12 (by kernel_rfl) (fun w1 c1 => (op_move (v := .slice _ _ _) rfl)) ?_
      refine lm_val 13 (by kernel_rfl) (fun w1 c1 => (op_move (v := .int .i64 _) rfl)) ?_
      refine lm_ck (fun h46 => ?_)
      refine lm_val 14 (by kernel_rfl) (fun w1 c1 => (op_indexA 1 rfl rfl (by kernel_rfl) ((hr_p0.old c1).addr h46.1 h46.2) hz_p0.2.2 h46.1 h46.2)) ?_
      refine lm_val 15 (by kernel_rfl) (fun w1 c1 => (op_load (v := .int .i64 (ix p0 s43)) rfl (by kernel_rfl) ((hr_p0.old c1).cell0 h46.1 h46.2 rfl))) ?_
      refine lm_call 16 (V := (fun (r : Bool) (_u : Unit) => .bool r)) (HR := (fun (_r : Bool) (_u : Unit) => [])) (by kernel_rfl) (fun w1 => op_callv rfl (by kernel_rfl)) (fun r1 hr1 w1 c1 => m_emptying_Of_1_ok N w1 (ix p0 s43) p1c0 p1c1 p1c2 p1c3 b_p1c0 A_p1c01 n_p1c01 c_p1c01 b_p1c1 A_p1c11 n_p1c11 c_p1c11 b_p1c2 b_p1c3 (c1.oblk hb_p1c0) (hr_p1c01.old c1) hz_p1c01 (c1.oblk hb_p1c1) (hr_p1c11.old c1) hz_p1c11 (c1.oblk hb_p1c2) (c1.oblk hb_p1c3) r1 hr1) ?_
      intro r47 u48
      refine lm_nil ?_
      refine xm_next ?_
      refine cm_condB (by kernel_rfl) rfl (fun h49 => ?_) (fun h49 => ?_)
      · skip
        refine cm_seq ?_
        refine cm_region ?_
        refine lm_val 17 (by kernel_rfl) (fun w1 c1 => (op_move (v := .int .i64 _) rfl)) ?_
        refine lm_val 4 (by kernel_rfl) (fun w1 c1 => (op_assign (v := .int .i64 _) rfl)) ?_
        refine lm_nil ?_
        refine xm_next ?_
        refine cm_ret ?_
        refine xm_inR ?_
        refine xm_thenR ?_
        refine xm_lret ?_
        refine xm_inR ?_
        refine xm_lret ?_
        exact xm_retT rfl (by kernel_rfl) (show _ = Value.int .i64 _ from rfl) fun w1 c1 => ⟨(), rfl, hsub [] (by kernel_rfl) rfl w1 c1⟩
      · skip
        refine cm_skip ?_
        refine xm_inN ?_
        refine xm_next ?_
        refine cm_region ?_
        refine lm_ck (fun h50 => ?_)
        refine lm_val 18 (by kernel_rfl) (fun w1 c1 => (op_add rfl rfl h50)) ?_
        refine lm_val 8 (by kernel_rfl) (fun w1 c1 => (op_move (v := .int .i64 _) rfl)) ?_
        refine lm_nil ?_
        exact xm_lnext () (sub_cons (by kernel_rfl) rfl (sub_cons (by kernel_rfl) rfl (sub_cons (by kernel_rfl) rfl (sub_cons (by kernel_rfl) rfl sub_nil)))) (hsub [] (by kernel_rfl) rfl)
    · skip
      refine cm_exit ?_
      refine xm_thenE ?_
      refine xm_lexit ?_
      refine xm_here ?_
      exact xm_lnext () sub_nil (hsub [] (by kernel_rfl) rfl)
  intro s25 u26
  refine cm_seq ?_
  refine cm_region ?_
  refine lm_val 4 (by kernel_rfl) (fun w1 c1 => (op_assign (v := .int .i64 _) rfl)) ?_
  refine lm_nil ?_
  refine xm_next ?_
  refine cm_ret ?_
  exact xm_retT rfl (by kernel_rfl) (show _ = Value.int .i64 _ from rfl) fun w1 c1 => ⟨(), rfl, hsub [] (by kernel_rfl) rfl w1 c1⟩
/-- slices.DeleteFunc -/
def m_slices_DeleteFunc (N : Nat) (p0 : (List Int)) (p1c0 : (List ApiAssign)) (p1c1 : (List ApiEmptying)) (p1c2 : ApiWindow) (p1c3 : Int) : Option ((List Int)) :=
  Option.bind (m_slices_IndexFunc_emptying_Of_1 N p0 p1c0 p1c1 p1c2 p1c3) fun r118 => (if r118 = -1 then
    some (p0)
  else
    (andThen
      (ck (I64 (r118 + (1 : Int))) (
        (loopM (fun (s215 : (List Int) × Int × Int) =>
          (if s215.2.2 < (List.length s215.1 : Int) then
            (andThen
              (ck ((0 : Int) ≤ s215.2.2 ∧ s215.2.2 < (List.length s215.1 : Int)) (
                Option.bind (m_emptying_Of_1 N (ix s215.1 s215.2.2) p1c0 p1c1 p1c2 p1c3) fun r227 => (if (!r227) = true then
                  ck ((0 : Int) ≤ s215.2.1 ∧ s215.2.1 < (List.length s215.1 : Int)) (
                    ck (I64 (s215.2.1 + (1 : Int))) (
                      some (.next ((List.set s215.1 (Int.toNat s215.2.1) (ix s215.1 s215.2.2)), (s215.2.1 + (1 : Int))))))
                else
                  some (.next (s215.1, s215.2.1)))))
            fun (s224 : (List Int) × Int) =>
              ck (I64 (s215.2.2 + (1 : Int))) (
                some (.next (s224.1, s224.2, (s215.2.2 + (1 : Int))))))
          else
            some (.done (.next (s215.1, s215.2.1))))) N (p0, r118, (r118 + (1 : Int))))))
    fun (s176 : (List Int) × Int) =>
      ck ((0 : Int) ≤ s176.2 ∧ s176.2 ≤ (List.length s176.1 : Int)) (
        ck ((0 : Int) ≤ s176.2 ∧ s176.2 ≤ (List.length (clearAt s176.1 (Int.toNat s176.2) (0 : Int)) : Int)) (
          some ((List.take (Int.toNat s176.2) (clearAt s176.1 (Int.toNat s176.2) (0 : Int))))))))
set_option maxRecDepth 20000 in
theorem m_slices_DeleteFunc_ok (N : Nat) (w0 w : World) (F : List HE) (p0 : (List Int)) (p1c0 : (List ApiAssign)) (p1c1 : (List ApiEmptying)) (p1c2 : ApiWindow) (p1c3 : Int) (A_p0 : Option Addr) (n_p0 : Nat) (c_p0 : Nat) (b_p1c0 : Nat) (A_p1c0 : Option Addr) (n_p1c0 : Nat) (c_p1c0 : Nat) (b_p1c1 : Nat) (A_p1c1 : Option Addr) (n_p1c1 : Nat) (c_p1c1 : Nat) (b_p1c2 : Nat) (b_p1c3 : Nat) (hr_p1c0 : RdE w0 4 encApiAssign A_p1c0 p1c0) (hz_p1c0 : SW A_p1c0 n_p1c0 c_p1c0 (List.length p1c0)) (hr_p1c1 : RdE w0 7 encApiEmptying A_p1c1 p1c1) (hz_p1c1 : SW A_p1c1 n_p1c1 c_p1c1 (List.length p1c1)) (hw : Hs w0 ([ownE 3 1 encI A_p0 n_p0 c_p0 p0, blkE b_p1c0 33 [.slice A_p1c0 n_p1c0 c_p1c0], blkE b_p1c1 22 [.slice A_p1c1 n_p1c1 c_p1c1], blkE b_p1c2 35 [.int .i64 p1c2.From, .int .i64 p1c2.To], blkE b_p1c3 3 [.int .i64 p1c3]] ++ [packE w0.heap.size F]) w) (r : (List Int)) (hr : m_slices_DeleteFunc N p0 p1c0 p1c1 p1c2 p1c3 = some r) :
    Calls Try.prog 29 [.slice A_p0 n_p0 c_p0, .func (.func 30) #[] #[.pointer (some ⟨b_p1c0, 0, none⟩), .pointer (some ⟨b_p1c1, 0, none⟩), .pointer (some ⟨b_p1c2, 0, none⟩), .pointer (some ⟨b_p1c3, 0, none⟩)]].toArray w fun x w1 => ∃ u, x = .returned ((fun (_r : (List Int)) (u : Nat) => .slice A_p0 u c_p0) r u) ∧ Hs w0 ((fun (r : (List Int)) (u : Nat) => [ownE 3 1 encI A_p0 u c_p0 r, blkE b_p1c0 33 [.slice A_p1c0 n_p1c0 c_p1c0], blkE b_p1c1 22 [.slice A_p1c1 n_p1c1 c_p1c1], blkE b_p1c2 35 [.int .i64 p1c2.From, .int .i64 p1c2.To], blkE b_p1c3 3 [.int .i64 p1c3]]) r u ++ [packE w0.heap.size F]) w1 := by
  refine calls_cmH (n := 42) (R := fun r x w1 => ∃ u, x = .returned ((fun (_r : (List Int)) (u : Nat) => .slice A_p0 u c_p0) r u) ∧ Hs w0 ((fun (r : (List Int)) (u : Nat) => [ownE 3 1 encI A_p0 u c_p0 r, blkE b_p1c0 33 [.slice A_p1c0 n_p1c0 c_p1c0], blkE b_p1c1 22 [.slice A_p1c1 n_p1c1 c_p1c1], blkE b_p1c2 35 [.int .i64 p1c2.From, .int .i64 p1c2.To], blkE b_p1c3 3 [.int .i64 p1c3]]) r u ++ [packE w0.heap.size F]) w1) Try.func29 rfl rfl (Nat.le_of_ble_eq_true rfl) ?_ hw r hr
  unfold m_slices_DeleteFunc
  refine cm_seq ?_
  refine cm_region ?_
  refine lm_val 4 (by kernel_rfl) (fun w1 c1 => (op_assign (v := .slice _ _ _) rfl)) ?_
  refine lm_nil ?_
  refine xm_next ?_
  refine cm_seq ?_
  refine cm_region ?_
  refine lm_val 8 (by kernel_rfl) (fun w1 c1 => (op_move (v := .slice _ _ _) rfl)) ?_
  refine lm_val 9 (by kernel_rfl) (fun w1 c1 => (op_move (v := .func _ _ _) rfl)) ?_
  refine lm_call 10 (V := (fun (r : Int) (_u : Unit) => .int .i64 r)) (HR := (fun (_r : Int) (_u : Unit) => [])) (by kernel_rfl) (fun w1 => op_call (by kernel_rfl)) (fun r1 hr1 w1 c1 => m_slices_IndexFunc_emptying_Of_1_ok N w1 p0 p1c0 p1c1 p1c2 p1c3 A_p0 n_p0 c_p0 b_p1c0 A_p1c0 n_p1c0 c_p1c0 b_p1c1 A_p1c1 n_p1c1 c_p1c1 b_p1c2 b_p1c3 (c1.own 0 rfl encI_len) (c1.ownZ 0 rfl) (c1.blk 1 rfl) (hr_p1c0.old c1) hz_p1c0 (c1.blk 2 rfl) (hr_p1c1.old c1) hz_p1c1 (c1.blk 3 rfl) (c1.blk 4 rfl) r1 hr1) ?_
  intro r118 u119
  refine lm_val 5 (by kernel_rfl) (fun w1 c1 => (op_assign (v := .int .i64 _) rfl)) ?_
  refine lm_nil ?_
  refine xm_next ?_
  refine cm_seq ?_
  refine cm_seq ?_
  refine cm_region ?_
  refine lm_val 11 (by kernel_rfl) (fun w1 c1 => (op_move (v := .int .i64 _) rfl)) ?_
  refine lm_val 12 (by kernel_rfl) (fun w1 c1 => (op_eql rfl rfl)) ?_
  refine lm_nil ?_
  refine xm_next ?_
  refine cm_cond (by kernel_rfl) rfl (fun h120 => ?_) (fun h120 => ?_)
  · skip
    refine cm_seq ?_
    refine cm_region ?_
    refine lm_val 13 (by kernel_rfl) (fun w1 c1 => (op_move (v := .slice _ _ _) rfl)) ?_
    refine lm_val 4 (by kernel_rfl) (fun w1 c1 => (op_assign (v := .slice _ _ _) rfl)) ?_
    refine lm_nil ?_
    refine xm_next ?_
    refine cm_ret ?_
    refine xm_thenR ?_
    exact xm_retT rfl (by kernel_rfl) (show _ = Value.slice _ _ _ from rfl) fun w1 c1 => ⟨n_p0, rfl, hsub [0, 1, 2, 3, 4, 5] (by kernel_rfl) rfl w1 c1⟩
  · skip
    refine cm_skip ?_
    refine xm_next ?_
    refine cm_join (σ := (List Int) × Int) (ξ := Unit) (fun s176 u177 => [(0, .slice A_p0 n_p0 c_p0), (5, .int .i64 s176.2)]) (fun s176 u177 => [ownE 3 1 encI A_p0 n_p0 c_p0 s176.1, blkE b_p1c0 33 [.slice A_p1c0 n_p1c0 c_p1c0], blkE b_p1c1 22 [.slice A_p1c1 n_p1c1 c_p1c1], blkE b_p1c2 35 [.int .i64 p1c2.From, .int .i64 p1c2.To], blkE b_p1c3 3 [.int .i64 p1c3], packE w0.heap.size F]) ?_ ?_
    · skip
      refine cm_seq ?_
      refine cm_region ?_
      refine lm_val 14 (by kernel_rfl) (fun w1 c1 => (op_move (v := .int .i64 _) rfl)) ?_
      refine lm_ck (fun h178 => ?_)
      refine lm_val 15 (by kernel_rfl) (fun w1 c1 => (op_add rfl rfl h178)) ?_
      refine lm_val 6 (by kernel_rfl) (fun w1 c1 => (op_assign (v := .int .i64 _) rfl)) ?_
      refine lm_nil ?_
      refine xm_next ?_
      refine cm_block ?_
      refine cm_loop (σ := (List Int) × Int × Int) (ξ := Unit) (fun s215 u216 => [(0, .slice A_p0 n_p0 c_p0), (1, .func (.func 30) #[] #[.pointer (some ⟨b_p1c0, 0, none⟩), .pointer (some ⟨b_p1c1, 0, none⟩), .pointer (some ⟨b_p1c2, 0, none⟩), .pointer (some ⟨b_p1c3, 0, none⟩)]), (5, .int .i64 s215.2.1), (6, .int .i64 s215.2.2)]) (fun s215 u216 => [ownE 3 1 encI A_p0 n_p0 c_p0 s215.1, blkE b_p1c0 33 [.slice A_p1c0 n_p1c0 c_p1c0], blkE b_p1c1 22 [.slice A_p1c1 n_p1c1 c_p1c1], blkE b_p1c2 35 [.int .i64 p1c2.From, .int .i64 p1c2.To], blkE b_p1c3 3 [.int .i64 p1c3], packE w0.heap.size F]) () ?_ ?_ ?_
      · exact (sub_cons (by kernel_rfl) rfl (sub_cons (by kernel_rfl) rfl (sub_cons (by kernel_rfl) rfl (sub_cons (by kernel_rfl) rfl sub_nil))))
      · exact hsub [0, 1, 2, 3, 4, 5] (by kernel_rfl) rfl
      intro s215 u216
      refine cm_seq ?_
      refine cm_seq ?_
      refine cm_region ?_
      refine lm_val 16 (by kernel_rfl) (fun w1 c1 => (op_move (v := .int .i64 _) rfl)) ?_
      refine lm_val 17 (by kernel_rfl) (fun w1 c1 => (op_move (v := .slice _ _ _) rfl)) ?_
      refine lm_val 18 (by kernel_rfl) (fun w1 c1 => (op_lenN rfl (by kernel_rfl) (c1.ownZ 0 rfl).2.2)) ?_
      refine lm_val 19 (by kernel_rfl) (fun w1 c1 => (op_lss rfl rfl)) ?_
      refine lm_nil ?_
      refine xm_next ?_
      refine cm_cond (by kernel_rfl) rfl (fun h217 => ?_) (fun h217 => ?_)
      · skip
        refine cm_skip ?_
        refine xm_next ?_
        refine cm_join (σ := (List Int) × Int) (ξ := Unit) (fun s224 u225 => [(0, .slice A_p0 n_p0 c_p0), (1, .func (.func 30) #[] #[.pointer (some ⟨b_p1c0, 0, none⟩), .pointer (some ⟨b_p1c1, 0, none⟩), .pointer (some ⟨b_p1c2, 0, none⟩), .pointer (some ⟨b_p1c3, 0, none⟩)]), (5, .int .i64 s224.2), (6, .int .i64 s215.2.2)]) (fun s224 u225 => [ownE 3 1 encI A_p0 n_p0 c_p0 s224.1, blkE b_p1c0 33 [.slice A_p1c0 n_p1c0 c_p1c0], blkE b_p1c1 22 [.slice A_p1c1 n_p1c1 c_p1c1], blkE b_p1c2 35 [.int .i64 p1c2.From, .int .i64 p1c2.To], blkE b_p1c3 3 [.int .i64 p1c3], packE w0.heap.size F]) ?_ ?_
        · skip
          refine cm_block ?_
          refine cm_seq ?_
          refine cm_region ?_
          refine lm_val 22 (by kernel_rfl) (fun w1 c1 => (op_move (v := .slice _ _ _) rfl)) ?_
          refine lm_val 23 (by kernel_rfl) (fun w1 c1 => (op_move (v := .int .i64 _) rfl)) ?_
          refine lm_ck (fun h226 => ?_)
          refine lm_val 24 (by kernel_rfl) (fun w1 c1 => (op_indexA 1 rfl rfl (by kernel_rfl) ((c1.own 0 rfl encI_len).addr h226.1 h226.2) (c1.ownZ 0 rfl).2.2 h226.1 h226.2)) ?_
          refine lm_val 25 (by kernel_rfl) (fun w1 c1 => (op_load (v := .int .i64 (ix s215.1 s215.2.2)) rfl (by kernel_rfl) ((c1.own 0 rfl encI_len).cell0 h226.1 h226.2 rfl))) ?_
          refine lm_val 7 (by kernel_rfl) (fun w1 c1 => (op_assign (v := .int .i64 _) rfl)) ?_
          refine lm_nil ?_
          refine xm_next ?_
          refine cm_seq ?_
          refine cm_region ?_
          refine lm_val 26 (by kernel_rfl) (fun w1 c1 => (op_move (v := .func _ _ _) rfl)) ?_
          refine lm_val 27 (by kernel_rfl) (fun w1 c1 => (op_move (v := .int .i64 _) rfl)) ?_
          refine lm_call 28 (V := (fun (r : Bool) (_u : Unit) => .bool r)) (HR := (fun (_r : Bool) (_u : Unit) => [])) (by kernel_rfl) (fun w1 => op_callv rfl (by kernel_rfl)) (fun r1 hr1 w1 c1 => m_emptying_Of_1_ok N w1 (ix s215.1 s215.2.2) p1c0 p1c1 p1c2 p1c3 b_p1c0 A_p1c0 n_p1c0 c_p1c0 b_p1c1 A_p1c1 n_p1c1 c_p1c1 b_p1c2 b_p1c3 (c1.blk 1 rfl) (hr_p1c0.old c1) hz_p1c0 (c1.blk 2 rfl) (hr_p1c1.old c1) hz_p1c1 (c1.blk 3 rfl) (c1.blk 4 rfl) r1 hr1) ?_
          intro r227 u228
          refine lm_val 29 (by kernel_rfl) (fun w1 c1 => (op_not rfl)) ?_
          refine lm_nil ?_
          refine xm_next ?_
          refine cm_condB (by kernel_rfl) rfl (fun h229 => ?_) (fun h229 => ?_)
          · skip
            refine cm_seq ?_
            refine cm_region ?_
            refine lm_val 30 (by kernel_rfl) (fun w1 c1 => (op_move (v := .slice _ _ _) rfl)) ?_
            refine lm_val 31 (by kernel_rfl) (fun w1 c1 => (op_move (v := .int .i64 _) rfl)) ?_
            refine lm_val 32 (by kernel_rfl) (fun w1 c1 => (op_move (v := .int .i64 _) rfl)) ?_
            refine lm_ck (fun h230 => ?_)
            refine lm_val 33 (by kernel_rfl) (fun w1 c1 => (op_indexA 1 rfl rfl (by kernel_rfl) ((c1.own 0 rfl encI_len).addr h230.1 h230.2) (c1.ownZ 0 rfl).2.2 h230.1 h230.2)) ?_
            refine lm_storeIx 0 (ix s215.1 s215.2.2) 0 [.int .i64 _] (by kernel_rfl) rfl rfl (by kernel_rfl) rfl rfl rfl encI_len encI_one h230.1 h230.2 (by kernel_rfl) rfl ?_
            refine lm_nil ?_
            refine xm_next ?_
            refine cm_region ?_
            refine lm_val 34 (by kernel_rfl) (fun w1 c1 => (op_move (v := .int .i64 _) rfl)) ?_
            refine lm_ck (fun h231 => ?_)
            refine lm_val 35 (by kernel_rfl) (fun w1 c1 => (op_add rfl rfl h231)) ?_
            refine lm_val 5 (by kernel_rfl) (fun w1 c1 => (op_assign (v := .int .i64 _) rfl)) ?_
            refine lm_nil ?_
            refine xm_inN ?_
            exact xm_lnext () (sub_cons (by kernel_rfl) rfl (sub_cons (by kernel_rfl) rfl (sub_cons (by kernel_rfl) rfl (sub_cons (by kernel_rfl) rfl sub_nil)))) (hsub [0, 1, 2, 3, 4, 5] (by kernel_rfl) rfl)
          · skip
            refine cm_skip ?_
            refine xm_inN ?_
            exact xm_lnext () (sub_cons (by kernel_rfl) rfl (sub_cons (by kernel_rfl) rfl (sub_cons (by kernel_rfl) rfl (sub_cons (by kernel_rfl) rfl sub_nil)))) (hsub [0, 1, 2, 3, 4, 5] (by kernel_rfl) rfl)
        intro s224 u225
        refine cm_region ?_
        refine lm_val 20 (by kernel_rfl) (fun w1 c1 => (op_move (v := .int .i64 _) rfl)) ?_
        refine lm_ck (fun h232 => ?_)
        refine lm_val 21 (by kernel_rfl) (fun w1 c1 => (op_add rfl rfl h232)) ?_
        refine lm_val 6 (by kernel_rfl) (fun w1 c1 => (op_assign (v := .int .i64 _) rfl)) ?_
        refine lm_nil ?_
        exact xm_lnext () (sub_cons (by kernel_rfl) rfl (sub_cons (by kernel_rfl) rfl (sub_cons (by kernel_rfl) rfl (sub_cons (by kernel_rfl) rfl sub_nil)))) (hsub [0, 1, 2, 3, 4, 5] (by kernel_rfl) rfl)
      · skip
        refine cm_exit ?_
        refine xm_thenE ?_
        refine xm_lexit ?_
        refine xm_here ?_
        exact xm_lnext () (sub_cons (by kernel_rfl) rfl (sub_cons (by kernel_rfl) rfl sub_nil)) (hsub [0, 1, 2, 3, 4, 5] (by kernel_rfl) rfl)
    intro s176 u177
    refine cm_seq ?_
    refine cm_region ?_
    refine lm_val 36 (by kernel_rfl) (fun w1 c1 => (op_move (v := .slice _ _ _) rfl)) ?_
    refine lm_val 37 (by kernel_rfl) (fun w1 c1 => (op_move (v := .int .i64 _) rfl)) ?_
    refine lm_ck (fun h233 => ?_)
    refine lm_val 38 (by kernel_rfl) (fun w1 c1 => (op_sliceFrom (l := s176.1) 1 rfl rfl (by kernel_rfl) (by kernel_rfl) (c1.ownZ 0 rfl) h233.1 h233.2)) ?_
    refine lm_clear 0 (bytes := 8) (Int.toNat s176.2) (0 : Int) (by kernel_rfl) (by kernel_rfl) encI_len encI_one rfl rfl rfl rfl rfl (fun w1 c1 => adv_at (c1.own 0 rfl encI_len) (c1.ownZ 0 rfl) h233.1 h233.2) (fun w1 c1 => by rw [(c1.ownZ 0 rfl).2.2]) (by have := h233.2; omega) ?_
    refine lm_nil ?_
    refine xm_next ?_
    refine cm_seq ?_
    refine cm_region ?_
    refine lm_val 39 (by kernel_rfl) (fun w1 c1 => (op_move (v := .slice _ _ _) rfl)) ?_
    refine lm_val 40 (by kernel_rfl) (fun w1 c1 => (op_move (v := .int .i64 _) rfl)) ?_
    refine lm_ck (fun h234 => ?_)
    refine lm_val 41 (by kernel_rfl) (fun w1 c1 => (op_sliceTo2 (l := (clearAt s176.1 (Int.toNat s176.2) (0 : Int))) rfl rfl (by kernel_rfl) (by kernel_rfl) (c1.ownZ 0 rfl) h234.1 h234.2)) ?_
    refine lm_val 4 (by kernel_rfl) (fun w1 c1 => (op_assign (v := .slice _ _ _) rfl)) ?_
    refine lm_nil ?_
    refine xm_next ?_
    refine cm_ret ?_
    refine xm_cut 0 rfl encI_len h234.1 h234.2 rfl ?_
    exact xm_retT rfl (by kernel_rfl) (show _ = Value.slice _ _ _ from rfl) fun w1 c1 => ⟨(Int.toNat s176.2), rfl, hsub [0, 1, 2, 3, 4, 5] (by kernel_rfl) rfl w1 c1⟩
/-- emptying.Of -/
def m_emptying_Of (N : Nat) (p0 : (List ApiEmptying)) (p1 : (List ApiAssign)) (p2 : Int) (p3 : ApiWindow) (p4 : Int) : Option ((List Int) × Int) :=
  Option.bind (m_emptying_Counts N p0 p4) fun r5 => (if r5.2 ≠ 0 then
    some ((([] : List Int), r5.2))
  else
    Option.bind (m_emptying_window N p3) fun r8 => (if (!r8) = true then
      some ((([] : List Int), (1 : Int)))
    else
      Option.bind (m_slices_DeleteFunc N r5.1 p1 p0 p3 p2) fun r11 => some ((r11, (0 : Int)))))
set_option maxRecDepth 20000 in
theorem m_emptying_Of_ok (N : Nat) (w0 : World) (p0 : (List ApiEmptying)) (p1 : (List ApiAssign)) (p2 : Int) (p3 : ApiWindow) (p4 : Int) (A_p0 : Option Addr) (n_p0 c_p0 : Nat) (A_p1 : Option Addr) (n_p1 c_p1 : Nat) (hr_p0 : RdE w0 7 encApiEmptying A_p0 p0) (hz_p0 : SW A_p0 n_p0 c_p0 (List.length p0)) (hr_p1 : RdE w0 4 encApiAssign A_p1 p1) (hz_p1 : SW A_p1 n_p1 c_p1 (List.length p1)) (r : (List Int) × Int) (hr : m_emptying_Of N p0 p1 p2 p3 p4 = some r) :
    Calls Try.prog 18 [.slice A_p0 n_p0 c_p0, .slice A_p1 n_p1 c_p1, .int .i64 p2, .agg #[.int .i64 p3.From, .int .i64 p3.To], .int .i64 p4].toArray w0 fun x w1 => ∃ u, x = .returned ((fun (r : (List Int) × Int) (u : (Option Addr) × Nat × Nat) => .tuple #[.slice u.1 u.2.1 u.2.2, .int .i64 r.2]) r u) ∧ Hs w0 ((fun (r : (List Int) × Int) (u : (Option Addr) × Nat × Nat) => [ownE 3 1 encI u.1 u.2.1 u.2.2 r.1]) r u) w1 := by
  refine calls_cm (n := 29) (R := fun r x w1 => ∃ u, x = .returned ((fun (r : (List Int) × Int) (u : (Option Addr) × Nat × Nat) => .tuple #[.slice u.1 u.2.1 u.2.2, .int .i64 r.2]) r u) ∧ Hs w0 ((fun (r : (List Int) × Int) (u : (Option Addr) × Nat × Nat) => [ownE 3 1 encI u.1 u.2.1 u.2.2 r.1]) r u) w1) Try.func18 rfl rfl (Nat.le_of_ble_eq_true rfl) ?_ r hr
  unfold m_emptying_Of
  refine cm_seq ?_
  refine cm_region ?_
  refine lm_box 5 [.slice _ _ _] (by kernel_rfl) rfl ?_
  intro b1
  refine lm_box 6 [.slice _ _ _] (by kernel_rfl) rfl ?_
  intro b2
  refine lm_box 7 [.int .i64 _] (by kernel_rfl) rfl ?_
  intro b3
  refine lm_box 8 [.int .i64 _, .int .i64 _] (by kernel_rfl) rfl ?_
  intro b4
  refine lm_val 10 (by kernel_rfl) (fun w1 c1 => (op_assign (v := .slice _ _ _) rfl)) ?_
  refine lm_val 11 (by kernel_rfl) (fun w1 c1 => (op_assign (v := .int .i64 _) rfl)) ?_
  refine lm_nil ?_
  refine xm_next ?_
  refine cm_seq ?_
  refine cm_region ?_
  refine lm_val 15 (by kernel_rfl) (fun w1 c1 => (op_load rfl (by kernel_rfl) (c1.cell 3 (u := .slice _ _ _) rfl rfl))) ?_
  refine lm_val 16 (by kernel_rfl) (fun w1 c1 => (op_move (v := .int .i64 _) rfl)) ?_
  refine lm_call 17 (V := (fun (r : (List Int) × Int) (u : (Option Addr) × Nat × Nat) => .tuple #[.slice u.1 u.2.1 u.2.2, .int .i64 r.2])) (HR := (fun (r : (List Int) × Int) (u : (Option Addr) × Nat × Nat) => [ownE 3 1 encI u.1 u.2.1 u.2.2 r.1])) (by kernel_rfl) (fun w1 => op_call (by kernel_rfl)) (fun r1 hr1 w1 c1 => m_emptying_Counts_ok N w1 p0 p4 A_p0 n_p0 c_p0 (hr_p0.old c1) hz_p0 r1 hr1) ?_
  intro r5 u6
  refine lm_val 14 (by kernel_rfl) (fun w1 c1 => (op_move (v := .tuple _) rfl)) ?_
  refine lm_val 18 (by kernel_rfl) (fun w1 c1 => (op_extract (v := .slice _ _ _) rfl rfl)) ?_
  refine lm_val 19 (by kernel_rfl) (fun w1 c1 => (op_extract (v := .int .i64 _) rfl rfl)) ?_
  refine lm_val 12 (by kernel_rfl) (fun w1 c1 => (op_assign (v := .slice _ _ _) rfl)) ?_
  refine lm_val 13 (by kernel_rfl) (fun w1 c1 => (op_assign (v := .int .i64 _) rfl)) ?_
  refine lm_nil ?_
  refine xm_next ?_
  refine cm_seq ?_
  refine cm_seq ?_
  refine cm_region ?_
  refine lm_val 20 (by kernel_rfl) (fun w1 c1 => (op_move (v := .int .i64 _) rfl)) ?_
  refine lm_val 21 (by kernel_rfl) (fun w1 c1 => (op_neq rfl rfl)) ?_
  refine lm_nil ?_
  refine xm_next ?_
  refine cm_cond (by kernel_rfl) rfl (fun h7 => ?_) (fun h7 => ?_)
  · skip
    refine cm_seq ?_
    refine cm_region ?_
    refine lm_val 22 (by kernel_rfl) (fun w1 c1 => (op_move (v := .int .i64 _) rfl)) ?_
    refine lm_val 10 (by kernel_rfl) (fun w1 c1 => (op_assign (v := .slice _ _ _) rfl)) ?_
    refine lm_val 11 (by kernel_rfl) (fun w1 c1 => (op_assign (v := .int .i64 _) rfl)) ?_
    refine lm_nil ?_
    refine xm_next ?_
    refine cm_ret ?_
    refine xm_thenR ?_
    refine xm_nilrow 3 1 encI ?_
    exact xm_retTT rfl (by kernel_rfl) (show _ = Value.slice _ _ _ from rfl) (by kernel_rfl) (show _ = Value.int .i64 _ from rfl) fun w1 c1 => ⟨(none, 0, 0), rfl, hsub [0] (by kernel_rfl) rfl w1 c1⟩
  · skip
    refine cm_skip ?_
    refine xm_next ?_
    refine cm_seq ?_
    refine cm_seq ?_
    refine cm_region ?_
    refine lm_val 23 (by kernel_rfl) (fun w1 c1 => (op_loadR [.int .i64 _, .int .i64 _] rfl (by kernel_rfl) (c1.cells 1 rfl rfl))) ?_
    refine lm_call 24 (V := (fun (r : Bool) (_u : Unit) => .bool r)) (HR := (fun (_r : Bool) (_u : Unit) => [])) (by kernel_rfl) (fun w1 => op_call (by kernel_rfl)) (fun r1 hr1 w1 c1 => m_emptying_window_ok N w1 p3  r1 hr1) ?_
    intro r8 u9
    refine lm_val 25 (by kernel_rfl) (fun w1 c1 => (op_not rfl)) ?_
    refine lm_nil ?_
    refine xm_next ?_
    refine cm_condB (by kernel_rfl) rfl (fun h10 => ?_) (fun h10 => ?_)
    · skip
      refine cm_seq ?_
      refine cm_region ?_
      refine lm_val 10 (by kernel_rfl) (fun w1 c1 => (op_assign (v := .slice _ _ _) rfl)) ?_
      refine lm_val 11 (by kernel_rfl) (fun w1 c1 => (op_assign (v := .int .i64 _) rfl)) ?_
      refine lm_nil ?_
      refine xm_next ?_
      refine cm_ret ?_
      refine xm_thenR ?_
      refine xm_nilrow 3 1 encI ?_
      exact xm_retTT rfl (by kernel_rfl) (show _ = Value.slice _ _ _ from rfl) (by kernel_rfl) (show _ = Value.int .i64 _ from rfl) fun w1 c1 => ⟨(none, 0, 0), rfl, hsub [0] (by kernel_rfl) rfl w1 c1⟩
    · skip
      refine cm_skip ?_
      refine xm_next ?_
      refine cm_seq ?_
      refine cm_region ?_
      refine lm_val 26 (by kernel_rfl) (fun w1 c1 => (op_move (v := .slice _ _ _) rfl)) ?_
      refine lm_val 27 (by kernel_rfl) (fun w1 c1 => (op_makeFuncC [.pointer (some ⟨_, _, _⟩), .pointer (some ⟨_, _, _⟩), .pointer (some ⟨_, _, _⟩), .pointer (some ⟨_, _, _⟩)] rfl)) ?_
      refine lm_callH 28 (V := (fun (_r : (List Int)) (u : Nat) => .slice u6.1 u u6.2.2)) [ownE 3 1 encI u6.1 u6.2.1 u6.2.2 r5.1, blkE b2 33 [.slice A_p1 n_p1 c_p1], blkE b1 22 [.slice A_p0 n_p0 c_p0], blkE b4 35 [.int .i64 p3.From, .int .i64 p3.To], blkE b3 3 [.int .i64 p2]] [] (O := (fun (r : (List Int)) (u : Nat) => [ownE 3 1 encI u6.1 u u6.2.2 r, blkE b2 33 [.slice A_p1 n_p1 c_p1], blkE b1 22 [.slice A_p0 n_p0 c_p0], blkE b4 35 [.int .i64 p3.From, .int .i64 p3.To], blkE b3 3 [.int .i64 p2]])) (hsub [0, 3, 4, 1, 2] (by kernel_rfl) rfl) (by kernel_rfl) (fun w1 => op_call (by kernel_rfl)) (fun r1 hr1 w1 c1 => m_slices_DeleteFunc_ok N w0 w1 [] r5.1 p1 p0 p3 p2 u6.1 u6.2.1 u6.2.2 b2 A_p1 n_p1 c_p1 b1 A_p0 n_p0 c_p0 b4 b3 hr_p1 hz_p1 hr_p0 hz_p0 c1 r1 hr1) ?_
      intro r11 u12
      refine lm_val 10 (by kernel_rfl) (fun w1 c1 => (op_assign (v := .slice _ _ _) rfl)) ?_
      refine lm_val 11 (by kernel_rfl) (fun w1 c1 => (op_assign (v := .int .i64 _) rfl)) ?_
      refine lm_nil ?_
      refine xm_next ?_
      refine cm_ret ?_
      exact xm_retTT rfl (by kernel_rfl) (show _ = Value.slice _ _ _ from rfl) (by kernel_rfl) (show _ = Value.int .i64 _ from rfl) fun w1 c1 => ⟨(u6.1, u12, u6.2.2), rfl, hsub [0] (by kernel_rfl) rfl w1 c1⟩
end Go.Proofs.Ytkepegnnkmmefaa
