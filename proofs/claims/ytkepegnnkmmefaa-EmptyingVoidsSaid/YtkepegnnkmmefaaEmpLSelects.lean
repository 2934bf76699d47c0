/- Models of functions, and that the code follows them. Written by deco.py. -/
import Derived.Test.YtkepegnnkmmefaaEmpAwake
namespace Go.Proofs.Ytkepegnnkmmefaa
open Go.RowKit

/-- recyclinglaw18.EmptyingSelects -/
def m_recyclinglaw18_EmptyingSelects (N : Nat) (p0 : (List ApiEmptying)) (p1 : Int) : Option (Bool) :=
  Option.bind (m_recyclinglaw18_great N p0) fun r1 => (if r1 = true then
    Option.bind (m_recyclinglaw18_awake N) fun r4 => some (r4)
  else
    Option.bind (m_emptying_Counts N p0 p1) fun r6 => Option.bind (m_recyclingref18_Counts N p0 p1) fun r8 => Option.bind (m_recyclingref18_Same N r6.1 r8.1) fun r10 => callIf ((r10 && (decide (r6.2 = r8.2))) = true) (m_recyclinglaw18_awake N) fun r12 => some (((r10 && (decide (r6.2 = r8.2))) && r12)))
set_option maxRecDepth 20000 in
theorem m_recyclinglaw18_EmptyingSelects_ok (N : Nat) (w0 : World) (p0 : (List ApiEmptying)) (p1 : Int) (A_p0 : Option Addr) (n_p0 c_p0 : Nat) (hr_p0 : RdE w0 7 encApiEmptying A_p0 p0) (hz_p0 : SW A_p0 n_p0 c_p0 (List.length p0)) (r : Bool) (hr : m_recyclinglaw18_EmptyingSelects N p0 p1 = some r) :
    Calls Try.prog 4 [.slice A_p0 n_p0 c_p0, .int .i64 p1].toArray w0 fun x w1 => ∃ u, x = .returned ((fun (r : Bool) (_u : Unit) => .bool r) r u) ∧ Hs w0 ((fun (_r : Bool) (_u : Unit) => []) r u) w1 := by
  refine calls_cm (n := 35) (R := fun r x w1 => ∃ u, x = .returned ((fun (r : Bool) (_u : Unit) => .bool r) r u) ∧ Hs w0 ((fun (_r : Bool) (_u : Unit) => []) r u) w1) Try.func4 rfl rfl (Nat.le_of_ble_eq_true rfl) ?_ r hr
  unfold m_recyclinglaw18_EmptyingSelects
  refine cm_seq ?_
  refine cm_region ?_
  refine lm_val 4 (by kernel_rfl) (fun w1 c1 => (op_assign (v := .bool false) rfl)) ?_
  refine lm_nil ?_
  refine xm_next ?_
  refine cm_seq ?_
  refine cm_seq ?_
  refine cm_region ?_
  refine lm_val 9 (by kernel_rfl) (fun w1 c1 => (op_move (v := .slice _ _ _) rfl)) ?_
  refine lm_call 10 (V := (fun (r : Bool) (_u : Unit) => .bool r)) (HR := (fun (_r : Bool) (_u : Unit) => [])) (by kernel_rfl) (fun w1 => op_call (by kernel_rfl)) (fun r1 hr1 w1 c1 => m_recyclinglaw18_great_ok N w1 p0 A_p0 n_p0 c_p0 (hr_p0.old c1) hz_p0 r1 hr1) ?_
  intro r1 u2
  refine lm_nil ?_
  refine xm_next ?_
  refine cm_condB (by kernel_rfl) rfl (fun h3 => ?_) (fun h3 => ?_)
  · skip
    refine cm_seq ?_
    refine cm_region ?_
    refine lm_call 11 (V := (fun (r : Bool) (_u : Unit) => .bool r)) (HR := (fun (_r : Bool) (_u : Unit) => [])) (by kernel_rfl) (fun w1 => op_call (by kernel_rfl)) (fun r1 hr1 w1 c1 => m_recyclinglaw18_awake_ok N w1   r1 hr1) ?_
    intro r4 u5
    refine lm_val 4 (by kernel_rfl) (fun w1 c1 => (op_assign (v := .bool _) rfl)) ?_
    refine lm_nil ?_
    refine xm_next ?_
    refine cm_ret ?_
    refine xm_thenR ?_
    exact xm_retT rfl (by kernel_rfl) (show _ = Value.bool _ from rfl) fun w1 c1 => ⟨(), rfl, hsub [] (by kernel_rfl) rfl w1 c1⟩
  · skip
    refine cm_skip ?_
    refine xm_next ?_
    refine cm_seq ?_
    refine cm_region ?_
    refine lm_val 13 (by kernel_rfl) (fun w1 c1 => (op_move (v := .slice _ _ _) rfl)) ?_
    refine lm_val 14 (by kernel_rfl) (fun w1 c1 => (op_move (v := .int .i64 _) rfl)) ?_
    refine lm_call 15 (V := (fun (r : (List Int) × Int) (u : (Option Addr) × Nat × Nat) => .tuple #[.slice u.1 u.2.1 u.2.2, .int .i64 r.2])) (HR := (fun (r : (List Int) × Int) (u : (Option Addr) × Nat × Nat) => [ownE 3 1 encI u.1 u.2.1 u.2.2 r.1])) (by kernel_rfl) (fun w1 => op_call (by kernel_rfl)) (fun r1 hr1 w1 c1 => m_emptying_Counts_ok N w1 p0 p1 A_p0 n_p0 c_p0 (hr_p0.old c1) hz_p0 r1 hr1) ?_
    intro r6 u7
    refine lm_val 12 (by kernel_rfl) (fun w1 c1 => (op_move (v := .tuple _) rfl)) ?_
    refine lm_val 16 (by kernel_rfl) (fun w1 c1 => (op_extract (v := .slice _ _ _) rfl rfl)) ?_
    refine lm_val 17 (by kernel_rfl) (fun w1 c1 => (op_extract (v := .int .i64 _) rfl rfl)) ?_
    refine lm_val 5 (by kernel_rfl) (fun w1 c1 => (op_assign (v := .slice _ _ _) rfl)) ?_
    refine lm_val 6 (by kernel_rfl) (fun w1 c1 => (op_assign (v := .int .i64 _) rfl)) ?_
    refine lm_nil ?_
    refine xm_next ?_
    refine cm_seq ?_
    refine cm_region ?_
    refine lm_val 19 (by kernel_rfl) (fun w1 c1 => (op_move (v := .slice _ _ _) rfl)) ?_
    refine lm_val 20 (by kernel_rfl) (fun w1 c1 => (op_move (v := .int .i64 _) rfl)) ?_
    refine lm_call 21 (V := (fun (r : (List Int) × Int) (u : (Option Addr) × Nat × Nat) => .tuple #[.slice u.1 u.2.1 u.2.2, .int .i64 r.2])) (HR := (fun (r : (List Int) × Int) (u : (Option Addr) × Nat × Nat) => [ownE 3 1 encI u.1 u.2.1 u.2.2 r.1])) (by kernel_rfl) (fun w1 => op_call (by kernel_rfl)) (fun r1 hr1 w1 c1 => m_recyclingref18_Counts_ok N w1 p0 p1 A_p0 n_p0 c_p0 (hr_p0.old c1) hz_p0 r1 hr1) ?_
    intro r8 u9
    refine lm_val 18 (by kernel_rfl) (fun w1 c1 => (op_move (v := .tuple _) rfl)) ?_
    refine lm_val 22 (by kernel_rfl) (fun w1 c1 => (op_extract (v := .slice _ _ _) rfl rfl)) ?_
    refine lm_val 23 (by kernel_rfl) (fun w1 c1 => (op_extract (v := .int .i64 _) rfl rfl)) ?_
    refine lm_val 7 (by kernel_rfl) (fun w1 c1 => (op_assign (v := .slice _ _ _) rfl)) ?_
    refine lm_val 8 (by kernel_rfl) (fun w1 c1 => (op_assign (v := .int .i64 _) rfl)) ?_
    refine lm_nil ?_
    refine xm_next ?_
    refine cm_seq ?_
    refine cm_bind fun r10 h11 => ?_
    refine cm_callIf fun r12 h13 => ?_
    refine cm_cutE [(4, .bool ((r10 && (decide (r6.2 = r8.2))) && r12))] ?_ ?_
    · skip
      refine wq_val 24 (by kernel_rfl) (fun w1 c1 => (op_move (v := .slice _ _ _) rfl)) ?_
      refine wq_val 25 (by kernel_rfl) (fun w1 c1 => (op_move (v := .slice _ _ _) rfl)) ?_
      refine wq_callb 26 (by kernel_rfl) (fun w1 c1 => op_call (by kernel_rfl)) (fun w1 c1 => (m_recyclingref18_Same_ok N w1 r6.1 r8.1 u7.1 u7.2.1 u7.2.2 u9.1 u9.2.1 u9.2.2 (c1.own 1 rfl encI_len) (c1.ownZ 1 rfl) (c1.own 0 rfl encI_len) (c1.ownZ 0 rfl) r10 h11).mono (fun _ _ ⟨_, hx, hu⟩ => ⟨hx, c1.call hu⟩)) (fun h14 => ?_) (fun h14 => ?_)
      · skip
        refine wq_val 27 (by kernel_rfl) (fun w1 c1 => (op_move (v := .bool true) rfl)) ?_
        refine wq_val 28 (by kernel_rfl) (fun w1 c1 => (op_move (v := .int .i64 _) rfl)) ?_
        refine wq_val 29 (by kernel_rfl) (fun w1 c1 => (op_move (v := .int .i64 _) rfl)) ?_
        refine wq_dec 30 (by kernel_rfl) (fun w1 c1 => (op_eql rfl rfl)) (fun h15 => ?_) (fun h15 => ?_)
        · skip
          refine wq_val 31 (by kernel_rfl) (fun w1 c1 => (op_pick_t (v := .bool true) rfl rfl)) ?_
          refine wq_val 32 (by kernel_rfl) (fun w1 c1 => (op_move (v := .bool true) rfl)) ?_
          refine wq_call 33 (by kernel_rfl) (fun w1 c1 => op_call (by kernel_rfl)) (fun w1 c1 => (m_recyclinglaw18_awake_ok N w1   r12 (h13 (by rw [h14, decide_eq_true h15] <;> rfl))).mono (fun _ _ ⟨_, hx, hu⟩ => ⟨hx, c1.call hu⟩)) ?_
          refine wq_val 34 (by kernel_rfl) (fun w1 c1 => (op_pick_t (v := .bool _) rfl rfl)) ?_
          refine wq_val 4 (by kernel_rfl) (fun w1 c1 => (op_assign (v := .bool _) rfl)) ?_
          exact leaf_q (sub_out 12 _ rfl (by kernel_rfl) ⟨(congrArg Value.bool (by rw [h14, decide_eq_true h15] <;> rfl)), trivial⟩)
        · skip
          refine wq_val 31 (by kernel_rfl) (fun w1 c1 => (op_pick_t (v := .bool false) rfl rfl)) ?_
          refine wq_val 32 (by kernel_rfl) (fun w1 c1 => (op_move (v := .bool false) rfl)) ?_
          refine wq_skip 33 (by kernel_rfl) ?_
          refine wq_val 34 (by kernel_rfl) (fun w1 c1 => (op_pick_f (v := .bool false) rfl rfl)) ?_
          refine wq_val 4 (by kernel_rfl) (fun w1 c1 => (op_assign (v := .bool false) rfl)) ?_
          exact leaf_q (sub_out 12 _ rfl (by kernel_rfl) ⟨(congrArg Value.bool (by rw [h14, decide_eq_false h15] <;> rfl)), trivial⟩)
      · skip
        refine wq_val 27 (by kernel_rfl) (fun w1 c1 => (op_move (v := .bool false) rfl)) ?_
        refine wq_skip 28 (by kernel_rfl) ?_
        refine wq_skip 29 (by kernel_rfl) ?_
        refine wq_skip 30 (by kernel_rfl) ?_
        refine wq_val 31 (by kernel_rfl) (fun w1 c1 => (op_pick_f (v := .bool false) rfl rfl)) ?_
        refine wq_val 32 (by kernel_rfl) (fun w1 c1 => (op_move (v := .bool false) rfl)) ?_
        refine wq_skip 33 (by kernel_rfl) ?_
        refine wq_val 34 (by kernel_rfl) (fun w1 c1 => (op_pick_f (v := .bool false) rfl rfl)) ?_
        refine wq_val 4 (by kernel_rfl) (fun w1 c1 => (op_assign (v := .bool false) rfl)) ?_
        exact leaf_q (sub_out 12 _ rfl (by kernel_rfl) ⟨(congrArg Value.bool (by rw [h14] <;> rfl)), trivial⟩)
    refine xm_next ?_
    refine cm_ret ?_
    exact xm_retT rfl (by kernel_rfl) (show _ = Value.bool _ from rfl) fun w1 c1 => ⟨(), rfl, hsub [] (by kernel_rfl) rfl w1 c1⟩
end Go.Proofs.Ytkepegnnkmmefaa
