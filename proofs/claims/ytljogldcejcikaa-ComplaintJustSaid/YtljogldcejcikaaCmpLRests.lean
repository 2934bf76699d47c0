/- Models of functions, and that the code follows them. Written by deco.py. -/
import Derived.Test.YtljogldcejcikaaCmpAwake
namespace Go.Proofs.Ytljogldcejcikaa
open Go.RowKit

/-- recyclinglaw57.ComplaintRests -/
def m_recyclinglaw57_ComplaintRests (N : Nat) (p0 : ApiBill) (p1 : Int) : Option (Bool) :=
  (if 600 < (List.length p0.Items : Int) then
    Option.bind (m_recyclinglaw57_awake N) fun r7 => some (r7)
  else
    Option.bind (m_complaint_Rest N p0 p1) fun r9 => Option.bind (m_recyclingref57_Rest N p0 p1) fun r11 => callIf (((decide (r9.1 = r11.1)) && (decide (r9.2 = r11.2))) = true) (m_recyclinglaw57_awake N) fun r13 => some ((((decide (r9.1 = r11.1)) && (decide (r9.2 = r11.2))) && r13)))
set_option maxRecDepth 20000 in
theorem m_recyclinglaw57_ComplaintRests_ok (N : Nat) (w0 : World) (p0 : ApiBill) (p1 : Int) (A_p01 : Option Addr) (n_p01 c_p01 : Nat) (hr_p01 : RdE w0 5 encApiItem A_p01 p0.Items) (hz_p01 : SW A_p01 n_p01 c_p01 (List.length p0.Items)) (r : Bool) (hr : m_recyclinglaw57_ComplaintRests N p0 p1 = some r) :
    Calls Try.prog 4 [.agg #[.int .i64 p0.ID, .int .i64 p0.Household, .int .i64 p0.When.From, .int .i64 p0.When.To, .slice A_p01 n_p01 c_p01, .int .i64 p0.Total], .int .i64 p1].toArray w0 fun x w1 => ∃ u, x = .returned ((fun (r : Bool) (_u : Unit) => .bool r) r u) ∧ Hs w0 ((fun (_r : Bool) (_u : Unit) => []) r u) w1 := by
  refine calls_cm (n := 37) (R := fun r x w1 => ∃ u, x = .returned ((fun (r : Bool) (_u : Unit) => .bool r) r u) ∧ Hs w0 ((fun (_r : Bool) (_u : Unit) => []) r u) w1) Try.func4 rfl rfl (Nat.le_of_ble_eq_true rfl) ?_ r hr
  unfold m_recyclinglaw57_ComplaintRests
  refine cm_seq ?_
  refine cm_region ?_
  refine lm_box 2 [.int .i64 _, .int .i64 _, .int .i64 _, .int .i64 _, .slice _ _ _, .int .i64 _] (by kernel_rfl) rfl ?_
  intro b5
  refine lm_val 4 (by kernel_rfl) (fun w1 c1 => (op_assign (v := .bool false) rfl)) ?_
  refine lm_nil ?_
  refine xm_next ?_
  refine cm_seq ?_
  refine cm_seq ?_
  refine cm_region ?_
  refine lm_val 9 (by kernel_rfl) (fun w1 c1 => (op_fieldL (m := 4) (k := 4) rfl (by kernel_rfl) rfl)) ?_
  refine lm_val 10 (by kernel_rfl) (fun w1 c1 => (op_load rfl (by kernel_rfl) (c1.cell 0 (u := .slice _ _ _) rfl rfl))) ?_
  refine lm_val 11 (by kernel_rfl) (fun w1 c1 => (op_lenN rfl (by kernel_rfl) hz_p01.2.2)) ?_
  refine lm_val 12 (by kernel_rfl) (fun w1 c1 => (op_gtr rfl rfl)) ?_
  refine lm_nil ?_
  refine xm_next ?_
  refine cm_cond (by kernel_rfl) rfl (fun h6 => ?_) (fun h6 => ?_)
  · skip
    refine cm_seq ?_
    refine cm_region ?_
    refine lm_call 13 (V := (fun (r : Bool) (_u : Unit) => .bool r)) (HR := (fun (_r : Bool) (_u : Unit) => [])) (by kernel_rfl) (fun w1 => op_call (by kernel_rfl)) (fun r1 hr1 w1 c1 => m_recyclinglaw57_awake_ok N w1   r1 hr1) ?_
    intro r7 u8
    refine lm_val 4 (by kernel_rfl) (fun w1 c1 => (op_assign (v := .bool _) rfl)) ?_
    refine lm_nil ?_
    refine xm_next ?_
    refine cm_ret ?_
    refine xm_thenR ?_
    exact xm_retT rfl (by kernel_rfl) (show _ = Value.bool _ from rfl) fun w1 c1 => ⟨(), rfl, hsub [] (by kernel_rfl) rfl w1 c1⟩
  · skip
    refine cm_skip ?_
    refine xm_next ?_
    refine cm_seq ?_
    refine cm_region ?_
    refine lm_val 15 (by kernel_rfl) (fun w1 c1 => (op_loadR [.int .i64 _, .int .i64 _, .int .i64 _, .int .i64 _, .slice _ _ _, .int .i64 _] rfl (by kernel_rfl) (c1.cells 0 rfl rfl))) ?_
    refine lm_val 16 (by kernel_rfl) (fun w1 c1 => (op_move (v := .int .i64 _) rfl)) ?_
    refine lm_call 17 (V := (fun (r : Int × Int) (_u : Unit) => .tuple #[.int .i64 r.1, .int .i64 r.2])) (HR := (fun (_r : Int × Int) (_u : Unit) => [])) (by kernel_rfl) (fun w1 => op_call (by kernel_rfl)) (fun r1 hr1 w1 c1 => m_complaint_Rest_ok N w1 p0 p1 A_p01 n_p01 c_p01 (hr_p01.old c1) hz_p01 r1 hr1) ?_
    intro r9 u10
    refine lm_val 14 (by kernel_rfl) (fun w1 c1 => (op_move (v := .tuple _) rfl)) ?_
    refine lm_val 18 (by kernel_rfl) (fun w1 c1 => (op_extract (v := .int .i64 _) rfl rfl)) ?_
    refine lm_val 19 (by kernel_rfl) (fun w1 c1 => (op_extract (v := .int .i64 _) rfl rfl)) ?_
    refine lm_val 5 (by kernel_rfl) (fun w1 c1 => (op_assign (v := .int .i64 _) rfl)) ?_
    refine lm_val 6 (by kernel_rfl) (fun w1 c1 => (op_assign (v := .int .i64 _) rfl)) ?_
    refine lm_nil ?_
    refine xm_next ?_
    refine cm_seq ?_
    refine cm_region ?_
    refine lm_val 21 (by kernel_rfl) (fun w1 c1 => (op_loadR [.int .i64 _, .int .i64 _, .int .i64 _, .int .i64 _, .slice _ _ _, .int .i64 _] rfl (by kernel_rfl) (c1.cells 0 rfl rfl))) ?_
    refine lm_val 22 (by kernel_rfl) (fun w1 c1 => (op_move (v := .int .i64 _) rfl)) ?_
    refine lm_call 23 (V := (fun (r : Int × Int) (_u : Unit) => .tuple #[.int .i64 r.1, .int .i64 r.2])) (HR := (fun (_r : Int × Int) (_u : Unit) => [])) (by kernel_rfl) (fun w1 => op_call (by kernel_rfl)) (fun r1 hr1 w1 c1 => m_recyclingref57_Rest_ok N w1 p0 p1 A_p01 n_p01 c_p01 (hr_p01.old c1) hz_p01 r1 hr1) ?_
    intro r11 u12
    refine lm_val 20 (by kernel_rfl) (fun w1 c1 => (op_move (v := .tuple _) rfl)) ?_
    refine lm_val 24 (by kernel_rfl) (fun w1 c1 => (op_extract (v := .int .i64 _) rfl rfl)) ?_
    refine lm_val 25 (by kernel_rfl) (fun w1 c1 => (op_extract (v := .int .i64 _) rfl rfl)) ?_
    refine lm_val 7 (by kernel_rfl) (fun w1 c1 => (op_assign (v := .int .i64 _) rfl)) ?_
    refine lm_val 8 (by kernel_rfl) (fun w1 c1 => (op_assign (v := .int .i64 _) rfl)) ?_
    refine lm_nil ?_
    refine xm_next ?_
    refine cm_seq ?_
    refine cm_callIf fun r13 h14 => ?_
    refine cm_cutE [(4, .bool (((decide (r9.1 = r11.1)) && (decide (r9.2 = r11.2))) && r13))] ?_ ?_
    · skip
      refine wq_val 26 (by kernel_rfl) (fun w1 c1 => (op_move (v := .int .i64 _) rfl)) ?_
      refine wq_val 27 (by kernel_rfl) (fun w1 c1 => (op_move (v := .int .i64 _) rfl)) ?_
      refine wq_dec 28 (by kernel_rfl) (fun w1 c1 => (op_eql rfl rfl)) (fun h15 => ?_) (fun h15 => ?_)
      · skip
        refine wq_val 29 (by kernel_rfl) (fun w1 c1 => (op_move (v := .bool true) rfl)) ?_
        refine wq_val 30 (by kernel_rfl) (fun w1 c1 => (op_move (v := .int .i64 _) rfl)) ?_
        refine wq_val 31 (by kernel_rfl) (fun w1 c1 => (op_move (v := .int .i64 _) rfl)) ?_
        refine wq_dec 32 (by kernel_rfl) (fun w1 c1 => (op_eql rfl rfl)) (fun h16 => ?_) (fun h16 => ?_)
        · skip
          refine wq_val 33 (by kernel_rfl) (fun w1 c1 => (op_pick_t (v := .bool true) rfl rfl)) ?_
          refine wq_val 34 (by kernel_rfl) (fun w1 c1 => (op_move (v := .bool true) rfl)) ?_
          refine wq_call 35 (by kernel_rfl) (fun w1 c1 => op_call (by kernel_rfl)) (fun w1 c1 => (m_recyclinglaw57_awake_ok N w1   r13 (h14 (by rw [decide_eq_true h15, decide_eq_true h16] <;> rfl))).mono (fun _ _ ⟨_, hx, hu⟩ => ⟨hx, c1.call hu⟩)) ?_
          refine wq_val 36 (by kernel_rfl) (fun w1 c1 => (op_pick_t (v := .bool _) rfl rfl)) ?_
          refine wq_val 4 (by kernel_rfl) (fun w1 c1 => (op_assign (v := .bool _) rfl)) ?_
          exact leaf_q (sub_out 12 _ rfl (by kernel_rfl) ⟨(congrArg Value.bool (by rw [decide_eq_true h15, decide_eq_true h16] <;> rfl)), trivial⟩)
        · skip
          refine wq_val 33 (by kernel_rfl) (fun w1 c1 => (op_pick_t (v := .bool false) rfl rfl)) ?_
          refine wq_val 34 (by kernel_rfl) (fun w1 c1 => (op_move (v := .bool false) rfl)) ?_
          refine wq_skip 35 (by kernel_rfl) ?_
          refine wq_val 36 (by kernel_rfl) (fun w1 c1 => (op_pick_f (v := .bool false) rfl rfl)) ?_
          refine wq_val 4 (by kernel_rfl) (fun w1 c1 => (op_assign (v := .bool false) rfl)) ?_
          exact leaf_q (sub_out 12 _ rfl (by kernel_rfl) ⟨(congrArg Value.bool (by rw [decide_eq_true h15, decide_eq_false h16] <;> rfl)), trivial⟩)
      · skip
        refine wq_val 29 (by kernel_rfl) (fun w1 c1 => (op_move (v := .bool false) rfl)) ?_
        refine wq_skip 30 (by kernel_rfl) ?_
        refine wq_skip 31 (by kernel_rfl) ?_
        refine wq_skip 32 (by kernel_rfl) ?_
        refine wq_val 33 (by kernel_rfl) (fun w1 c1 => (op_pick_f (v := .bool false) rfl rfl)) ?_
        refine wq_val 34 (by kernel_rfl) (fun w1 c1 => (op_move (v := .bool false) rfl)) ?_
        refine wq_skip 35 (by kernel_rfl) ?_
        refine wq_val 36 (by kernel_rfl) (fun w1 c1 => (op_pick_f (v := .bool false) rfl rfl)) ?_
        refine wq_val 4 (by kernel_rfl) (fun w1 c1 => (op_assign (v := .bool false) rfl)) ?_
        exact leaf_q (sub_out 12 _ rfl (by kernel_rfl) ⟨(congrArg Value.bool (by rw [decide_eq_false h15] <;> rfl)), trivial⟩)
    refine xm_next ?_
    refine cm_ret ?_
    exact xm_retT rfl (by kernel_rfl) (show _ = Value.bool _ from rfl) fun w1 c1 => ⟨(), rfl, hsub [] (by kernel_rfl) rfl w1 c1⟩
end Go.Proofs.Ytljogldcejcikaa
