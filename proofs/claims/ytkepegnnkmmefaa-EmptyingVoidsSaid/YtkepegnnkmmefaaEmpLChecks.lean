/- Models of functions, and that the code follows them. Written by deco.py. -/
import Derived.Test.YtkepegnnkmmefaaEmpAwake
namespace Go.Proofs.Ytkepegnnkmmefaa
open Go.RowKit

/-- recyclinglaw18.EmptyingChecks -/
def m_recyclinglaw18_EmptyingChecks (N : Nat) (p0 : (List ApiEmptying)) (p1 : Int) (p2 : Int) : Option (Bool) :=
  Option.bind (m_recyclinglaw18_great N p0) fun r1 => (if r1 = true then
    Option.bind (m_recyclinglaw18_awake N) fun r4 => some (r4)
  else
    Option.bind (m_emptying_Check N p0 p1 p2) fun r6 => Option.bind (m_recyclingref18_Check N p0 p1 p2) fun r8 => callIf (decide (r6 = r8) = true) (m_recyclinglaw18_awake N) fun r10 => some (((decide (r6 = r8)) && r10)))
set_option maxRecDepth 20000 in
theorem m_recyclinglaw18_EmptyingChecks_ok (N : Nat) (w0 : World) (p0 : (List ApiEmptying)) (p1 : Int) (p2 : Int) (A_p0 : Option Addr) (n_p0 c_p0 : Nat) (hr_p0 : RdE w0 7 encApiEmptying A_p0 p0) (hz_p0 : SW A_p0 n_p0 c_p0 (List.length p0)) (r : Bool) (hr : m_recyclinglaw18_EmptyingChecks N p0 p1 p2 = some r) :
    Calls Try.prog 3 [.slice A_p0 n_p0 c_p0, .int .i64 p1, .int .i64 p2].toArray w0 fun x w1 => ∃ u, x = .returned ((fun (r : Bool) (_u : Unit) => .bool r) r u) ∧ Hs w0 ((fun (_r : Bool) (_u : Unit) => []) r u) w1 := by
  refine calls_cm (n := 22) (R := fun r x w1 => ∃ u, x = .returned ((fun (r : Bool) (_u : Unit) => .bool r) r u) ∧ Hs w0 ((fun (_r : Bool) (_u : Unit) => []) r u) w1) Try.func3 rfl rfl (Nat.le_of_ble_eq_true rfl) ?_ r hr
  unfold m_recyclinglaw18_EmptyingChecks
  refine cm_seq ?_
  refine cm_region ?_
  refine lm_val 6 (by kernel_rfl) (fun w1 c1 => (op_assign (v := .bool false) rfl)) ?_
  refine lm_nil ?_
  refine xm_next ?_
  refine cm_seq ?_
  refine cm_seq ?_
  refine cm_region ?_
  refine lm_val 7 (by kernel_rfl) (fun w1 c1 => (op_move (v := .slice _ _ _) rfl)) ?_
  refine lm_call 8 (V := (fun (r : Bool) (_u : Unit) => .bool r)) (HR := (fun (_r : Bool) (_u : Unit) => [])) (by kernel_rfl) (fun w1 => op_call (by kernel_rfl)) (fun r1 hr1 w1 c1 => m_recyclinglaw18_great_ok N w1 p0 A_p0 n_p0 c_p0 (hr_p0.old c1) hz_p0 r1 hr1) ?_
  intro r1 u2
  refine lm_nil ?_
  refine xm_next ?_
  refine cm_condB (by kernel_rfl) rfl (fun h3 => ?_) (fun h3 => ?_)
  · skip
    refine cm_seq ?_
    refine cm_region ?_
    refine lm_call 9 (V := (fun (r : Bool) (_u : Unit) => .bool r)) (HR := (fun (_r : Bool) (_u : Unit) => [])) (by kernel_rfl) (fun w1 => op_call (by kernel_rfl)) (fun r1 hr1 w1 c1 => m_recyclinglaw18_awake_ok N w1   r1 hr1) ?_
    intro r4 u5
    refine lm_val 6 (by kernel_rfl) (fun w1 c1 => (op_assign (v := .bool _) rfl)) ?_
    refine lm_nil ?_
    refine xm_next ?_
    refine cm_ret ?_
    refine xm_thenR ?_
    exact xm_retT rfl (by kernel_rfl) (show _ = Value.bool _ from rfl) fun w1 c1 => ⟨(), rfl, hsub [] (by kernel_rfl) rfl w1 c1⟩
  · skip
    refine cm_skip ?_
    refine xm_next ?_
    refine cm_seq ?_
    refine cm_bind fun r6 h7 => ?_
    refine cm_bind fun r8 h9 => ?_
    refine cm_callIf fun r10 h11 => ?_
    refine cm_cutE [(6, .bool ((decide (r6 = r8)) && r10))] ?_ ?_
    · skip
      refine wq_val 10 (by kernel_rfl) (fun w1 c1 => (op_move (v := .slice _ _ _) rfl)) ?_
      refine wq_val 11 (by kernel_rfl) (fun w1 c1 => (op_move (v := .int .i64 _) rfl)) ?_
      refine wq_val 12 (by kernel_rfl) (fun w1 c1 => (op_move (v := .int .i64 _) rfl)) ?_
      refine wq_call 13 (by kernel_rfl) (fun w1 c1 => op_call (by kernel_rfl)) (fun w1 c1 => (m_emptying_Check_ok N w1 p0 p1 p2 A_p0 n_p0 c_p0 (hr_p0.old c1) hz_p0 r6 h7).mono (fun _ _ ⟨_, hx, hu⟩ => ⟨hx, c1.call hu⟩)) ?_
      refine wq_val 14 (by kernel_rfl) (fun w1 c1 => (op_move (v := .slice _ _ _) rfl)) ?_
      refine wq_val 15 (by kernel_rfl) (fun w1 c1 => (op_move (v := .int .i64 _) rfl)) ?_
      refine wq_val 16 (by kernel_rfl) (fun w1 c1 => (op_move (v := .int .i64 _) rfl)) ?_
      refine wq_call 17 (by kernel_rfl) (fun w1 c1 => op_call (by kernel_rfl)) (fun w1 c1 => (m_recyclingref18_Check_ok N w1 p0 p1 p2 A_p0 n_p0 c_p0 (hr_p0.old c1) hz_p0 r8 h9).mono (fun _ _ ⟨_, hx, hu⟩ => ⟨hx, c1.call hu⟩)) ?_
      refine wq_dec 18 (by kernel_rfl) (fun w1 c1 => (op_eql rfl rfl)) (fun h12 => ?_) (fun h12 => ?_)
      · skip
        refine wq_val 19 (by kernel_rfl) (fun w1 c1 => (op_move (v := .bool true) rfl)) ?_
        refine wq_call 20 (by kernel_rfl) (fun w1 c1 => op_call (by kernel_rfl)) (fun w1 c1 => (m_recyclinglaw18_awake_ok N w1   r10 (h11 (by rw [decide_eq_true h12] <;> rfl))).mono (fun _ _ ⟨_, hx, hu⟩ => ⟨hx, c1.call hu⟩)) ?_
        refine wq_val 21 (by kernel_rfl) (fun w1 c1 => (op_pick_t (v := .bool _) rfl rfl)) ?_
        refine wq_val 6 (by kernel_rfl) (fun w1 c1 => (op_assign (v := .bool _) rfl)) ?_
        exact leaf_q (sub_out 13 _ rfl (by kernel_rfl) ⟨(congrArg Value.bool (by rw [decide_eq_true h12] <;> rfl)), trivial⟩)
      · skip
        refine wq_val 19 (by kernel_rfl) (fun w1 c1 => (op_move (v := .bool false) rfl)) ?_
        refine wq_skip 20 (by kernel_rfl) ?_
        refine wq_val 21 (by kernel_rfl) (fun w1 c1 => (op_pick_f (v := .bool false) rfl rfl)) ?_
        refine wq_val 6 (by kernel_rfl) (fun w1 c1 => (op_assign (v := .bool false) rfl)) ?_
        exact leaf_q (sub_out 13 _ rfl (by kernel_rfl) ⟨(congrArg Value.bool (by rw [decide_eq_false h12] <;> rfl)), trivial⟩)
    refine xm_next ?_
    refine cm_ret ?_
    exact xm_retT rfl (by kernel_rfl) (show _ = Value.bool _ from rfl) fun w1 c1 => ⟨(), rfl, hsub [] (by kernel_rfl) rfl w1 c1⟩
end Go.Proofs.Ytkepegnnkmmefaa
