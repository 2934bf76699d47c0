/- Models of functions, and that the code follows them. Written by deco.py. -/
import Derived.Test.YtkepegnnkmmefaaEmpAwake
namespace Go.Proofs.Ytkepegnnkmmefaa
open Go.RowKit

/-- recyclinglaw18.EmptyingMasses -/
def m_recyclinglaw18_EmptyingMasses (N : Nat) (p0 : (List ApiEmptying)) (p1 : Int) (p2 : ApiWindow) : Option (Bool) :=
  Option.bind (m_recyclinglaw18_great N p0) fun r2 => (if r2 = true then
    Option.bind (m_recyclinglaw18_awake N) fun r5 => some (r5)
  else
    Option.bind (m_emptying_Mass N p0 p1 p2) fun r7 => Option.bind (m_recyclingref18_Mass N p0 p1 p2) fun r10 => callIf (((decide (r7.1 = r10.1)) && (decide (r7.2 = r10.2))) = true) (m_recyclinglaw18_awake N) fun r13 => some ((((decide (r7.1 = r10.1)) && (decide (r7.2 = r10.2))) && r13)))
set_option maxRecDepth 20000 in
theorem m_recyclinglaw18_EmptyingMasses_ok (N : Nat) (w0 : World) (p0 : (List ApiEmptying)) (p1 : Int) (p2 : ApiWindow) (A_p0 : Option Addr) (n_p0 c_p0 : Nat) (hr_p0 : RdE w0 7 encApiEmptying A_p0 p0) (hz_p0 : SW A_p0 n_p0 c_p0 (List.length p0)) (r : Bool) (hr : m_recyclinglaw18_EmptyingMasses N p0 p1 p2 = some r) :
    Calls Try.prog 6 [.slice A_p0 n_p0 c_p0, .int .i64 p1, .agg #[.int .i64 p2.From, .int .i64 p2.To]].toArray w0 fun x w1 => ∃ u, x = .returned ((fun (r : Bool) (_u : Unit) => .bool r) r u) ∧ Hs w0 ((fun (_r : Bool) (_u : Unit) => []) r u) w1 := by
  refine calls_cm (n := 39) (R := fun r x w1 => ∃ u, x = .returned ((fun (r : Bool) (_u : Unit) => .bool r) r u) ∧ Hs w0 ((fun (_r : Bool) (_u : Unit) => []) r u) w1) Try.func6 rfl rfl (Nat.le_of_ble_eq_true rfl) ?_ r hr
  unfold m_recyclinglaw18_EmptyingMasses
  refine cm_seq ?_
  refine cm_region ?_
  refine lm_box 5 [.int .i64 _, .int .i64 _] (by kernel_rfl) rfl ?_
  intro b1
  refine lm_val 6 (by kernel_rfl) (fun w1 c1 => (op_assign (v := .bool false) rfl)) ?_
  refine lm_nil ?_
  refine xm_next ?_
  refine cm_seq ?_
  refine cm_seq ?_
  refine cm_region ?_
  refine lm_val 11 (by kernel_rfl) (fun w1 c1 => (op_move (v := .slice _ _ _) rfl)) ?_
  refine lm_call 12 (V := (fun (r : Bool) (_u : Unit) => .bool r)) (HR := (fun (_r : Bool) (_u : Unit) => [])) (by kernel_rfl) (fun w1 => op_call (by kernel_rfl)) (fun r1 hr1 w1 c1 => m_recyclinglaw18_great_ok N w1 p0 A_p0 n_p0 c_p0 (hr_p0.old c1) hz_p0 r1 hr1) ?_
  intro r2 u3
  refine lm_nil ?_
  refine xm_next ?_
  refine cm_condB (by kernel_rfl) rfl (fun h4 => ?_) (fun h4 => ?_)
  · skip
    refine cm_seq ?_
    refine cm_region ?_
    refine lm_call 13 (V := (fun (r : Bool) (_u : Unit) => .bool r)) (HR := (fun (_r : Bool) (_u : Unit) => [])) (by kernel_rfl) (fun w1 => op_call (by kernel_rfl)) (fun r1 hr1 w1 c1 => m_recyclinglaw18_awake_ok N w1   r1 hr1) ?_
    intro r5 u6
    refine lm_val 6 (by kernel_rfl) (fun w1 c1 => (op_assign (v := .bool _) rfl)) ?_
    refine lm_nil ?_
    refine xm_next ?_
    refine cm_ret ?_
    refine xm_thenR ?_
    exact xm_retT rfl (by kernel_rfl) (show _ = Value.bool _ from rfl) fun w1 c1 => ⟨(), rfl, hsub [] (by kernel_rfl) rfl w1 c1⟩
  · skip
    refine cm_skip ?_
    refine xm_next ?_
    refine cm_seq ?_
    refine cm_region ?_
    refine lm_val 15 (by kernel_rfl) (fun w1 c1 => (op_move (v := .slice _ _ _) rfl)) ?_
    refine lm_val 16 (by kernel_rfl) (fun w1 c1 => (op_move (v := .int .i64 _) rfl)) ?_
    refine lm_val 17 (by kernel_rfl) (fun w1 c1 => (op_loadR [.int .i64 _, .int .i64 _] rfl (by kernel_rfl) (c1.cells 0 rfl rfl))) ?_
    refine lm_call 18 (V := (fun (r : ApiSpan × Int) (_u : Unit) => .tuple #[.agg #[.int .i64 r.1.Lo, .int .i64 r.1.Hi], .int .i64 r.2])) (HR := (fun (_r : ApiSpan × Int) (_u : Unit) => [])) (by kernel_rfl) (fun w1 => op_call (by kernel_rfl)) (fun r1 hr1 w1 c1 => m_emptying_Mass_ok N w1 p0 p1 p2 A_p0 n_p0 c_p0 (hr_p0.old c1) hz_p0 r1 hr1) ?_
    intro r7 u8
    refine lm_val 14 (by kernel_rfl) (fun w1 c1 => (op_move (v := .tuple _) rfl)) ?_
    refine lm_val 19 (by kernel_rfl) (fun w1 c1 => (op_extract (v := .agg _) rfl rfl)) ?_
    refine lm_val 20 (by kernel_rfl) (fun w1 c1 => (op_extract (v := .int .i64 _) rfl rfl)) ?_
    refine lm_alloc 7 [.int .i64 0, .int .i64 0] (v := .agg #[.int .i64 0, .int .i64 0]) (by kernel_rfl) (by kernel_rfl) rfl ?_
    intro b9
    refine lm_storeA 0 [.int .i64 _, .int .i64 _] [_, _] (H' := [blkE _ _ [_, _], _]) (by kernel_rfl) rfl rfl (by kernel_rfl) rfl rfl (by kernel_rfl) rfl rfl ?_
    refine lm_val 8 (by kernel_rfl) (fun w1 c1 => (op_assign (v := .int .i64 _) rfl)) ?_
    refine lm_nil ?_
    refine xm_next ?_
    refine cm_seq ?_
    refine cm_region ?_
    refine lm_val 22 (by kernel_rfl) (fun w1 c1 => (op_move (v := .slice _ _ _) rfl)) ?_
    refine lm_val 23 (by kernel_rfl) (fun w1 c1 => (op_move (v := .int .i64 _) rfl)) ?_
    refine lm_val 24 (by kernel_rfl) (fun w1 c1 => (op_loadR [.int .i64 _, .int .i64 _] rfl (by kernel_rfl) (c1.cells 1 rfl rfl))) ?_
    refine lm_call 25 (V := (fun (r : ApiSpan × Int) (_u : Unit) => .tuple #[.agg #[.int .i64 r.1.Lo, .int .i64 r.1.Hi], .int .i64 r.2])) (HR := (fun (_r : ApiSpan × Int) (_u : Unit) => [])) (by kernel_rfl) (fun w1 => op_call (by kernel_rfl)) (fun r1 hr1 w1 c1 => m_recyclingref18_Mass_ok N w1 p0 p1 p2 A_p0 n_p0 c_p0 (hr_p0.old c1) hz_p0 r1 hr1) ?_
    intro r10 u11
    refine lm_val 21 (by kernel_rfl) (fun w1 c1 => (op_move (v := .tuple _) rfl)) ?_
    refine lm_val 26 (by kernel_rfl) (fun w1 c1 => (op_extract (v := .agg _) rfl rfl)) ?_
    refine lm_val 27 (by kernel_rfl) (fun w1 c1 => (op_extract (v := .int .i64 _) rfl rfl)) ?_
    refine lm_alloc 9 [.int .i64 0, .int .i64 0] (v := .agg #[.int .i64 0, .int .i64 0]) (by kernel_rfl) (by kernel_rfl) rfl ?_
    intro b12
    refine lm_storeA 0 [.int .i64 _, .int .i64 _] [_, _] (H' := [blkE _ _ [_, _], _, _]) (by kernel_rfl) rfl rfl (by kernel_rfl) rfl rfl (by kernel_rfl) rfl rfl ?_
    refine lm_val 10 (by kernel_rfl) (fun w1 c1 => (op_assign (v := .int .i64 _) rfl)) ?_
    refine lm_nil ?_
    refine xm_next ?_
    refine cm_seq ?_
    refine cm_callIf fun r13 h14 => ?_
    refine cm_cutE [(6, .bool (((decide (r7.1 = r10.1)) && (decide (r7.2 = r10.2))) && r13))] ?_ ?_
    · skip
      refine wq_val 28 (by kernel_rfl) (fun w1 c1 => (op_loadR [.int .i64 _, .int .i64 _] rfl (by kernel_rfl) (c1.cells 1 rfl rfl))) ?_
      refine wq_val 29 (by kernel_rfl) (fun w1 c1 => (op_loadR [.int .i64 _, .int .i64 _] rfl (by kernel_rfl) (c1.cells 0 rfl rfl))) ?_
      refine wq_dec 30 (by kernel_rfl) (fun w1 c1 => (op_eqApiSpan r7.1 r10.1 rfl rfl)) (fun h15 => ?_) (fun h15 => ?_)
      · skip
        refine wq_val 31 (by kernel_rfl) (fun w1 c1 => (op_move (v := .bool true) rfl)) ?_
        refine wq_val 32 (by kernel_rfl) (fun w1 c1 => (op_move (v := .int .i64 _) rfl)) ?_
        refine wq_val 33 (by kernel_rfl) (fun w1 c1 => (op_move (v := .int .i64 _) rfl)) ?_
        refine wq_dec 34 (by kernel_rfl) (fun w1 c1 => (op_eql rfl rfl)) (fun h16 => ?_) (fun h16 => ?_)
        · skip
          refine wq_val 35 (by kernel_rfl) (fun w1 c1 => (op_pick_t (v := .bool true) rfl rfl)) ?_
          refine wq_val 36 (by kernel_rfl) (fun w1 c1 => (op_move (v := .bool true) rfl)) ?_
          refine wq_call 37 (by kernel_rfl) (fun w1 c1 => op_call (by kernel_rfl)) (fun w1 c1 => (m_recyclinglaw18_awake_ok N w1   r13 (h14 (by rw [decide_eq_true h15, decide_eq_true h16] <;> rfl))).mono (fun _ _ ⟨_, hx, hu⟩ => ⟨hx, c1.call hu⟩)) ?_
          refine wq_val 38 (by kernel_rfl) (fun w1 c1 => (op_pick_t (v := .bool _) rfl rfl)) ?_
          refine wq_val 6 (by kernel_rfl) (fun w1 c1 => (op_assign (v := .bool _) rfl)) ?_
          exact leaf_q (sub_out 12 _ rfl (by kernel_rfl) ⟨(congrArg Value.bool (by rw [decide_eq_true h15, decide_eq_true h16] <;> rfl)), trivial⟩)
        · skip
          refine wq_val 35 (by kernel_rfl) (fun w1 c1 => (op_pick_t (v := .bool false) rfl rfl)) ?_
          refine wq_val 36 (by kernel_rfl) (fun w1 c1 => (op_move (v := .bool false) rfl)) ?_
          refine wq_skip 37 (by kernel_rfl) ?_
          refine wq_val 38 (by kernel_rfl) (fun w1 c1 => (op_pick_f (v := .bool false) rfl rfl)) ?_
          refine wq_val 6 (by kernel_rfl) (fun w1 c1 => (op_assign (v := .bool false) rfl)) ?_
          exact leaf_q (sub_out 12 _ rfl (by kernel_rfl) ⟨(congrArg Value.bool (by rw [decide_eq_true h15, decide_eq_false h16] <;> rfl)), trivial⟩)
      · skip
        refine wq_val 31 (by kernel_rfl) (fun w1 c1 => (op_move (v := .bool false) rfl)) ?_
        refine wq_skip 32 (by kernel_rfl) ?_
        refine wq_skip 33 (by kernel_rfl) ?_
        refine wq_skip 34 (by kernel_rfl) ?_
        refine wq_val 35 (by kernel_rfl) (fun w1 c1 => (op_pick_f (v := .bool false) rfl rfl)) ?_
        refine wq_val 36 (by kernel_rfl) (fun w1 c1 => (op_move (v := .bool false) rfl)) ?_
        refine wq_skip 37 (by kernel_rfl) ?_
        refine wq_val 38 (by kernel_rfl) (fun w1 c1 => (op_pick_f (v := .bool false) rfl rfl)) ?_
        refine wq_val 6 (by kernel_rfl) (fun w1 c1 => (op_assign (v := .bool false) rfl)) ?_
        exact leaf_q (sub_out 12 _ rfl (by kernel_rfl) ⟨(congrArg Value.bool (by rw [decide_eq_false h15] <;> rfl)), trivial⟩)
    refine xm_next ?_
    refine cm_ret ?_
    exact xm_retT rfl (by kernel_rfl) (show _ = Value.bool _ from rfl) fun w1 c1 => ⟨(), rfl, hsub [] (by kernel_rfl) rfl w1 c1⟩
end Go.Proofs.Ytkepegnnkmmefaa
