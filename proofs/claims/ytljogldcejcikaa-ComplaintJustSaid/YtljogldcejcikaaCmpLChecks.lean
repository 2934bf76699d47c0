/- Models of functions, and that the code follows them. Written by deco.py. -/
import Derived.Test.YtljogldcejcikaaCmpAwake
namespace Go.Proofs.Ytljogldcejcikaa
open Go.RowKit

/-- recyclinglaw57.ComplaintChecks -/
def m_recyclinglaw57_ComplaintChecks (N : Nat) (p0 : ApiComplaint) : Option (Bool) :=
  Option.bind (m_complaint_Check N p0) fun r6 => Option.bind (m_recyclingref57_Check N p0) fun r8 => callIf (decide (r6 = r8) = true) (m_recyclinglaw57_awake N) fun r10 => some (((decide (r6 = r8)) && r10))
set_option maxRecDepth 20000 in
theorem m_recyclinglaw57_ComplaintChecks_ok (N : Nat) (w0 : World) (p0 : ApiComplaint)   (r : Bool) (hr : m_recyclinglaw57_ComplaintChecks N p0 = some r) :
    Calls Try.prog 3 [.agg #[.int .i64 p0.Bill, .int .i64 p0.Item, .int .i64 p0.At, .int .i64 p0.Kind]].toArray w0 fun x w1 => ∃ u, x = .returned ((fun (r : Bool) (_u : Unit) => .bool r) r u) ∧ Hs w0 ((fun (_r : Bool) (_u : Unit) => []) r u) w1 := by
  refine calls_cm (n := 11) (R := fun r x w1 => ∃ u, x = .returned ((fun (r : Bool) (_u : Unit) => .bool r) r u) ∧ Hs w0 ((fun (_r : Bool) (_u : Unit) => []) r u) w1) Try.func3 rfl rfl (Nat.le_of_ble_eq_true rfl) ?_ r hr
  unfold m_recyclinglaw57_ComplaintChecks
  refine cm_seq ?_
  refine cm_region ?_
  refine lm_box 1 [.int .i64 _, .int .i64 _, .int .i64 _, .int .i64 _] (by kernel_rfl) rfl ?_
  intro b5
  refine lm_val 2 (by kernel_rfl) (fun w1 c1 => (op_assign (v := .bool false) rfl)) ?_
  refine lm_nil ?_
  refine xm_next ?_
  refine cm_seq ?_
  refine cm_bind fun r6 h7 => ?_
  refine cm_bind fun r8 h9 => ?_
  refine cm_callIf fun r10 h11 => ?_
  refine cm_drawn [(2, .bool ((decide (r6 = r8)) && r10))] (by kernel_rfl) (by kernel_rfl) ?_ ?_
  · skip
    refine wq_val 3 (by kernel_rfl) (fun w1 c1 => (op_loadR [.int .i64 _, .int .i64 _, .int .i64 _, .int .i64 _] rfl (by kernel_rfl) (c1.cells 0 rfl rfl))) ?_
    refine wq_call 4 (by kernel_rfl) (fun w1 c1 => op_call (by kernel_rfl)) (fun w1 c1 => (m_complaint_Check_ok N w1 p0  r6 h7).mono (fun _ _ ⟨_, hx, hu⟩ => ⟨hx, c1.call hu⟩)) ?_
    refine wq_val 5 (by kernel_rfl) (fun w1 c1 => (op_loadR [.int .i64 _, .int .i64 _, .int .i64 _, .int .i64 _] rfl (by kernel_rfl) (c1.cells 0 rfl rfl))) ?_
    refine wq_call 6 (by kernel_rfl) (fun w1 c1 => op_call (by kernel_rfl)) (fun w1 c1 => (m_recyclingref57_Check_ok N w1 p0  r8 h9).mono (fun _ _ ⟨_, hx, hu⟩ => ⟨hx, c1.call hu⟩)) ?_
    refine wq_dec 7 (by kernel_rfl) (fun w1 c1 => (op_eql rfl rfl)) (fun h12 => ?_) (fun h12 => ?_)
    · skip
      refine wq_val 8 (by kernel_rfl) (fun w1 c1 => (op_move (v := .bool true) rfl)) ?_
      refine wq_call 9 (by kernel_rfl) (fun w1 c1 => op_call (by kernel_rfl)) (fun w1 c1 => (m_recyclinglaw57_awake_ok N w1   r10 (h11 (by rw [decide_eq_true h12] <;> rfl))).mono (fun _ _ ⟨_, hx, hu⟩ => ⟨hx, c1.call hu⟩)) ?_
      refine wq_val 10 (by kernel_rfl) (fun w1 c1 => (op_pick_t (v := .bool _) rfl rfl)) ?_
      refine wq_val 2 (by kernel_rfl) (fun w1 c1 => (op_assign (v := .bool _) rfl)) ?_
      exact leaf_q (sub_out 9 _ rfl (by kernel_rfl) ⟨(congrArg Value.bool (by rw [decide_eq_true h12] <;> rfl)), trivial⟩)
    · skip
      refine wq_val 8 (by kernel_rfl) (fun w1 c1 => (op_move (v := .bool false) rfl)) ?_
      refine wq_skip 9 (by kernel_rfl) ?_
      refine wq_val 10 (by kernel_rfl) (fun w1 c1 => (op_pick_f (v := .bool false) rfl rfl)) ?_
      refine wq_val 2 (by kernel_rfl) (fun w1 c1 => (op_assign (v := .bool false) rfl)) ?_
      exact leaf_q (sub_out 9 _ rfl (by kernel_rfl) ⟨(congrArg Value.bool (by rw [decide_eq_false h12] <;> rfl)), trivial⟩)
  refine xm_next ?_
  refine cm_ret ?_
  exact xm_retT rfl (by kernel_rfl) (show _ = Value.bool _ from rfl) fun w1 c1 => ⟨(), rfl, hsub [] (by kernel_rfl) rfl w1 c1⟩
end Go.Proofs.Ytljogldcejcikaa
