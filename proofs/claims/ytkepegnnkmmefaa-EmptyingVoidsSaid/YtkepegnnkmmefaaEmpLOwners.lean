/- Models of functions, and that the code follows them. Written by deco.py. -/
import Derived.Test.YtkepegnnkmmefaaEmpAwake
namespace Go.Proofs.Ytkepegnnkmmefaa
open Go.RowKit

/-- recyclinglaw18.EmptyingOwners -/
def m_recyclinglaw18_EmptyingOwners (N : Nat) (p0 : (List ApiEmptying)) (p1 : (List ApiAssign)) (p2 : Recyclinglaw18Ask) : Option (Bool) :=
  Option.bind (m_recyclinglaw18_great N p0) fun r2 => (if (r2 || (decide (60 < (List.length p1 : Int)))) = true then
    Option.bind (m_recyclinglaw18_awake N) fun r6 => some (r6)
  else
    Option.bind (m_emptying_Of N p0 p1 p2.Household p2.When p2.Gap) fun r8 => Option.bind (m_recyclingref18_Of N p0 p1 p2.Household p2.When p2.Gap) fun r10 => Option.bind (m_recyclingref18_Same N r8.1 r10.1) fun r12 => callIf ((r12 && (decide (r8.2 = r10.2))) = true) (m_recyclinglaw18_awake N) fun r14 => some (((r12 && (decide (r8.2 = r10.2))) && r14)))
set_option maxRecDepth 20000 in
theorem m_recyclinglaw18_EmptyingOwners_ok (N : Nat) (w0 : World) (p0 : (List ApiEmptying)) (p1 : (List ApiAssign)) (p2 : Recyclinglaw18Ask) (A_p0 : Option Addr) (n_p0 c_p0 : Nat) (A_p1 : Option Addr) (n_p1 c_p1 : Nat) (hr_p0 : RdE w0 7 encApiEmptying A_p0 p0) (hz_p0 : SW A_p0 n_p0 c_p0 (List.length p0)) (hr_p1 : RdE w0 4 encApiAssign A_p1 p1) (hz_p1 : SW A_p1 n_p1 c_p1 (List.length p1)) (r : Bool) (hr : m_recyclinglaw18_EmptyingOwners N p0 p1 p2 = some r) :
    Calls Try.prog 5 [.slice A_p0 n_p0 c_p0, .slice A_p1 n_p1 c_p1, .agg #[.int .i64 p2.Household, .int .i64 p2.When.From, .int .i64 p2.When.To, .int .i64 p2.Gap]].toArray w0 fun x w1 => ∃ u, x = .returned ((fun (r : Bool) (_u : Unit) => .bool r) r u) ∧ Hs w0 ((fun (_r : Bool) (_u : Unit) => []) r u) w1 := by
  refine calls_cm (n := 54) (R := fun r x w1 => ∃ u, x = .returned ((fun (r : Bool) (_u : Unit) => .bool r) r u) ∧ Hs w0 ((fun (_r : Bool) (_u : Unit) => []) r u) w1) Try.func5 rfl rfl (Nat.le_of_ble_eq_true rfl) ?_ r hr
  unfold m_recyclinglaw18_EmptyingOwners
  refine cm_seq ?_
  refine cm_region ?_
  refine lm_box 5 [.int .i64 _, .int .i64 _, .int .i64 _, .int .i64 _] (by kernel_rfl) rfl ?_
  intro b1
  refine lm_val 6 (by kernel_rfl) (fun w1 c1 => (op_assign (v := .bool false) rfl)) ?_
  refine lm_nil ?_
  refine xm_next ?_
  refine cm_seq ?_
  refine cm_seq ?_
  refine cm_bind fun r2 h3 => ?_
  refine cm_cutE [(17, .bool (r2 || (decide (60 < (List.length p1 : Int)))))] ?_ ?_
  · skip
    refine wq_val 11 (by kernel_rfl) (fun w1 c1 => (op_move (v := .slice _ _ _) rfl)) ?_
    refine wq_callb 12 (by kernel_rfl) (fun w1 c1 => op_call (by kernel_rfl)) (fun w1 c1 => (m_recyclinglaw18_great_ok N w1 p0 A_p0 n_p0 c_p0 (hr_p0.old c1) hz_p0 r2 h3).mono (fun _ _ ⟨_, hx, hu⟩ => ⟨hx, c1.call hu⟩)) (fun h4 => ?_) (fun h4 => ?_)
    · skip
      refine wq_val 13 (by kernel_rfl) (fun w1 c1 => (op_move (v := .bool true) rfl)) ?_
      refine wq_skip 14 (by kernel_rfl) ?_
      refine wq_skip 15 (by kernel_rfl) ?_
      refine wq_skip 16 (by kernel_rfl) ?_
      refine wq_val 17 (by kernel_rfl) (fun w1 c1 => (op_pick_t (v := .bool true) rfl rfl)) ?_
      exact leaf_q (sub_out 7 _ rfl (by kernel_rfl) ⟨(congrArg Value.bool (by rw [h4] <;> rfl)), trivial⟩)
    · skip
      refine wq_val 13 (by kernel_rfl) (fun w1 c1 => (op_move (v := .bool false) rfl)) ?_
      refine wq_val 14 (by kernel_rfl) (fun w1 c1 => (op_move (v := .slice _ _ _) rfl)) ?_
      refine wq_val 15 (by kernel_rfl) (fun w1 c1 => (op_lenN rfl (by kernel_rfl) hz_p1.2.2)) ?_
      refine wq_val 16 (by kernel_rfl) (fun w1 c1 => (op_gtr rfl rfl)) ?_
      refine wq_val 17 (by kernel_rfl) (fun w1 c1 => (op_pick_f (v := .bool _) rfl rfl)) ?_
      exact leaf_q (sub_out 7 _ rfl (by kernel_rfl) ⟨(congrArg Value.bool (by rw [h4] <;> rfl)), trivial⟩)
  refine xm_next ?_
  refine cm_condB (by kernel_rfl) rfl (fun h5 => ?_) (fun h5 => ?_)
  · skip
    refine cm_seq ?_
    refine cm_region ?_
    refine lm_call 18 (V := (fun (r : Bool) (_u : Unit) => .bool r)) (HR := (fun (_r : Bool) (_u : Unit) => [])) (by kernel_rfl) (fun w1 => op_call (by kernel_rfl)) (fun r1 hr1 w1 c1 => m_recyclinglaw18_awake_ok N w1   r1 hr1) ?_
    intro r6 u7
    refine lm_val 6 (by kernel_rfl) (fun w1 c1 => (op_assign (v := .bool _) rfl)) ?_
    refine lm_nil ?_
    refine xm_next ?_
    refine cm_ret ?_
    refine xm_thenR ?_
    exact xm_retT rfl (by kernel_rfl) (show _ = Value.bool _ from rfl) fun w1 c1 => ⟨(), rfl, hsub [] (by kernel_rfl) rfl w1 c1⟩
  · skip
    refine cm_skip ?_
    refine xm_next ?_
    refine cm_seq ?_
    refine cm_region ?_
    refine lm_val 20 (by kernel_rfl) (fun w1 c1 => (op_move (v := .slice _ _ _) rfl)) ?_
    refine lm_val 21 (by kernel_rfl) (fun w1 c1 => (op_move (v := .slice _ _ _) rfl)) ?_
    refine lm_val 22 (by kernel_rfl) (fun w1 c1 => (op_fieldL (m := 0) (k := 0) rfl (by kernel_rfl) rfl)) ?_
    refine lm_val 23 (by kernel_rfl) (fun w1 c1 => (op_load rfl (by kernel_rfl) (c1.cell 0 (u := .int .i64 _) rfl rfl))) ?_
    refine lm_val 24 (by kernel_rfl) (fun w1 c1 => (op_fieldL (m := 1) (k := 1) rfl (by kernel_rfl) rfl)) ?_
    refine lm_val 25 (by kernel_rfl) (fun w1 c1 => (op_loadR [.int .i64 _, .int .i64 _] rfl (by kernel_rfl) (c1.cells 0 rfl rfl))) ?_
    refine lm_val 26 (by kernel_rfl) (fun w1 c1 => (op_fieldL (m := 3) (k := 3) rfl (by kernel_rfl) rfl)) ?_
    refine lm_val 27 (by kernel_rfl) (fun w1 c1 => (op_load rfl (by kernel_rfl) (c1.cell 0 (u := .int .i64 _) rfl rfl))) ?_
    refine lm_call 28 (V := (fun (r : (List Int) × Int) (u : (Option Addr) × Nat × Nat) => .tuple #[.slice u.1 u.2.1 u.2.2, .int .i64 r.2])) (HR := (fun (r : (List Int) × Int) (u : (Option Addr) × Nat × Nat) => [ownE 3 1 encI u.1 u.2.1 u.2.2 r.1])) (by kernel_rfl) (fun w1 => op_call (by kernel_rfl)) (fun r1 hr1 w1 c1 => m_emptying_Of_ok N w1 p0 p1 p2.Household p2.When p2.Gap A_p0 n_p0 c_p0 A_p1 n_p1 c_p1 (hr_p0.old c1) hz_p0 (hr_p1.old c1) hz_p1 r1 hr1) ?_
    intro r8 u9
    refine lm_val 19 (by kernel_rfl) (fun w1 c1 => (op_move (v := .tuple _) rfl)) ?_
    refine lm_val 29 (by kernel_rfl) (fun w1 c1 => (op_extract (v := .slice _ _ _) rfl rfl)) ?_
    refine lm_val 30 (by kernel_rfl) (fun w1 c1 => (op_extract (v := .int .i64 _) rfl rfl)) ?_
    refine lm_val 7 (by kernel_rfl) (fun w1 c1 => (op_assign (v := .slice _ _ _) rfl)) ?_
    refine lm_val 8 (by kernel_rfl) (fun w1 c1 => (op_assign (v := .int .i64 _) rfl)) ?_
    refine lm_nil ?_
    refine xm_next ?_
    refine cm_seq ?_
    refine cm_region ?_
    refine lm_val 32 (by kernel_rfl) (fun w1 c1 => (op_move (v := .slice _ _ _) rfl)) ?_
    refine lm_val 33 (by kernel_rfl) (fun w1 c1 => (op_move (v := .slice _ _ _) rfl)) ?_
    refine lm_val 34 (by kernel_rfl) (fun w1 c1 => (op_fieldL (m := 0) (k := 0) rfl (by kernel_rfl) rfl)) ?_
    refine lm_val 35 (by kernel_rfl) (fun w1 c1 => (op_load rfl (by kernel_rfl) (c1.cell 1 (u := .int .i64 _) rfl rfl))) ?_
    refine lm_val 36 (by kernel_rfl) (fun w1 c1 => (op_fieldL (m := 1) (k := 1) rfl (by kernel_rfl) rfl)) ?_
    refine lm_val 37 (by kernel_rfl) (fun w1 c1 => (op_loadR [.int .i64 _, .int .i64 _] rfl (by kernel_rfl) (c1.cells 1 rfl rfl))) ?_
    refine lm_val 38 (by kernel_rfl) (fun w1 c1 => (op_fieldL (m := 3) (k := 3) rfl (by kernel_rfl) rfl)) ?_
    refine lm_val 39 (by kernel_rfl) (fun w1 c1 => (op_load rfl (by kernel_rfl) (c1.cell 1 (u := .int .i64 _) rfl rfl))) ?_
    refine lm_call 40 (V := (fun (r : (List Int) × Int) (u : (Option Addr) × Nat × Nat) => .tuple #[.slice u.1 u.2.1 u.2.2, .int .i64 r.2])) (HR := (fun (r : (List Int) × Int) (u : (Option Addr) × Nat × Nat) => [ownE 3 1 encI u.1 u.2.1 u.2.2 r.1])) (by kernel_rfl) (fun w1 => op_call (by kernel_rfl)) (fun r1 hr1 w1 c1 => m_recyclingref18_Of_ok N w1 p0 p1 p2.Household p2.When p2.Gap A_p0 n_p0 c_p0 A_p1 n_p1 c_p1 (hr_p0.old c1) hz_p0 (hr_p1.old c1) hz_p1 r1 hr1) ?_
    intro r10 u11
    refine lm_val 31 (by kernel_rfl) (fun w1 c1 => (op_move (v := .tuple _) rfl)) ?_
    refine lm_val 41 (by kernel_rfl) (fun w1 c1 => (op_extract (v := .slice _ _ _) rfl rfl)) ?_
    refine lm_val 42 (by kernel_rfl) (fun w1 c1 => (op_extract (v := .int .i64 _) rfl rfl)) ?_
    refine lm_val 9 (by kernel_rfl) (fun w1 c1 => (op_assign (v := .slice _ _ _) rfl)) ?_
    refine lm_val 10 (by kernel_rfl) (fun w1 c1 => (op_assign (v := .int .i64 _) rfl)) ?_
    refine lm_nil ?_
    refine xm_next ?_
    refine cm_seq ?_
    refine cm_bind fun r12 h13 => ?_
    refine cm_callIf fun r14 h15 => ?_
    refine cm_cutE [(6, .bool ((r12 && (decide (r8.2 = r10.2))) && r14))] ?_ ?_
    · skip
      refine wq_val 43 (by kernel_rfl) (fun w1 c1 => (op_move (v := .slice _ _ _) rfl)) ?_
      refine wq_val 44 (by kernel_rfl) (fun w1 c1 => (op_move (v := .slice _ _ _) rfl)) ?_
      refine wq_callb 45 (by kernel_rfl) (fun w1 c1 => op_call (by kernel_rfl)) (fun w1 c1 => (m_recyclingref18_Same_ok N w1 r8.1 r10.1 u9.1 u9.2.1 u9.2.2 u11.1 u11.2.1 u11.2.2 (c1.own 1 rfl encI_len) (c1.ownZ 1 rfl) (c1.own 0 rfl encI_len) (c1.ownZ 0 rfl) r12 h13).mono (fun _ _ ⟨_, hx, hu⟩ => ⟨hx, c1.call hu⟩)) (fun h16 => ?_) (fun h16 => ?_)
      · skip
        refine wq_val 46 (by kernel_rfl) (fun w1 c1 => (op_move (v := .bool true) rfl)) ?_
        refine wq_val 47 (by kernel_rfl) (fun w1 c1 => (op_move (v := .int .i64 _) rfl)) ?_
        refine wq_val 48 (by kernel_rfl) (fun w1 c1 => (op_move (v := .int .i64 _) rfl)) ?_
        refine wq_dec 49 (by kernel_rfl) (fun w1 c1 => (op_eql rfl rfl)) (fun h17 => ?_) (fun h17 => ?_)
        · skip
          refine wq_val 50 (by kernel_rfl) (fun w1 c1 => (op_pick_t (v := .bool true) rfl rfl)) ?_
          refine wq_val 51 (by kernel_rfl) (fun w1 c1 => (op_move (v := .bool true) rfl)) ?_
          refine wq_call 52 (by kernel_rfl) (fun w1 c1 => op_call (by kernel_rfl)) (fun w1 c1 => (m_recyclinglaw18_awake_ok N w1   r14 (h15 (by rw [h16, decide_eq_true h17] <;> rfl))).mono (fun _ _ ⟨_, hx, hu⟩ => ⟨hx, c1.call hu⟩)) ?_
          refine wq_val 53 (by kernel_rfl) (fun w1 c1 => (op_pick_t (v := .bool _) rfl rfl)) ?_
          refine wq_val 6 (by kernel_rfl) (fun w1 c1 => (op_assign (v := .bool _) rfl)) ?_
          exact leaf_q (sub_out 12 _ rfl (by kernel_rfl) ⟨(congrArg Value.bool (by rw [h16, decide_eq_true h17] <;> rfl)), trivial⟩)
        · skip
          refine wq_val 50 (by kernel_rfl) (fun w1 c1 => (op_pick_t (v := .bool false) rfl rfl)) ?_
          refine wq_val 51 (by kernel_rfl) (fun w1 c1 => (op_move (v := .bool false) rfl)) ?_
          refine wq_skip 52 (by kernel_rfl) ?_
          refine wq_val 53 (by kernel_rfl) (fun w1 c1 => (op_pick_f (v := .bool false) rfl rfl)) ?_
          refine wq_val 6 (by kernel_rfl) (fun w1 c1 => (op_assign (v := .bool false) rfl)) ?_
          exact leaf_q (sub_out 12 _ rfl (by kernel_rfl) ⟨(congrArg Value.bool (by rw [h16, decide_eq_false h17] <;> rfl)), trivial⟩)
      · skip
        refine wq_val 46 (by kernel_rfl) (fun w1 c1 => (op_move (v := .bool false) rfl)) ?_
        refine wq_skip 47 (by kernel_rfl) ?_
        refine wq_skip 48 (by kernel_rfl) ?_
        refine wq_skip 49 (by kernel_rfl) ?_
        refine wq_val 50 (by kernel_rfl) (fun w1 c1 => (op_pick_f (v := .bool false) rfl rfl)) ?_
        refine wq_val 51 (by kernel_rfl) (fun w1 c1 => (op_move (v := .bool false) rfl)) ?_
        refine wq_skip 52 (by kernel_rfl) ?_
        refine wq_val 53 (by kernel_rfl) (fun w1 c1 => (op_pick_f (v := .bool false) rfl rfl)) ?_
        refine wq_val 6 (by kernel_rfl) (fun w1 c1 => (op_assign (v := .bool false) rfl)) ?_
        exact leaf_q (sub_out 12 _ rfl (by kernel_rfl) ⟨(congrArg Value.bool (by rw [h16] <;> rfl)), trivial⟩)
    refine xm_next ?_
    refine cm_ret ?_
    exact xm_retT rfl (by kernel_rfl) (show _ = Value.bool _ from rfl) fun w1 c1 => ⟨(), rfl, hsub [] (by kernel_rfl) rfl w1 c1⟩
end Go.Proofs.Ytkepegnnkmmefaa
