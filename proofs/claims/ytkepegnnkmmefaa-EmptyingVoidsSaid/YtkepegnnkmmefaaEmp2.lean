/- Models of functions, and that the code follows them. Written by deco.py. -/
import Derived.Test.YtkepegnnkmmefaaEmp1
namespace Go.Proofs.Ytkepegnnkmmefaa
open Go.RowKit

/-- emptying.within -/
def m_emptying_within (_N : Nat) (p0 : Int) (p1 : Int) (p2 : Int) : Option (Bool) :=
  some (((decide (p1 ≤ p0)) && (decide (p0 ≤ p2))))
set_option maxRecDepth 20000 in
theorem m_emptying_within_ok (N : Nat) (w0 : World) (p0 : Int) (p1 : Int) (p2 : Int)   (r : Bool) (hr : m_emptying_within N p0 p1 p2 = some r) :
    Calls Try.prog 25 [.int .i64 p0, .int .i64 p1, .int .i64 p2].toArray w0 fun x w1 => ∃ u, x = .returned ((fun (r : Bool) (_u : Unit) => .bool r) r u) ∧ Hs w0 ((fun (_r : Bool) (_u : Unit) => []) r u) w1 := by
  refine calls_cm (n := 15) (R := fun r x w1 => ∃ u, x = .returned ((fun (r : Bool) (_u : Unit) => .bool r) r u) ∧ Hs w0 ((fun (_r : Bool) (_u : Unit) => []) r u) w1) Try.func25 rfl rfl (Nat.le_of_ble_eq_true rfl) ?_ r hr
  unfold m_emptying_within
  refine cm_seq ?_
  refine cm_region ?_
  refine lm_val 6 (by kernel_rfl) (fun w1 c1 => (op_assign (v := .bool false) rfl)) ?_
  refine lm_nil ?_
  refine xm_next ?_
  refine cm_seq ?_
  refine cm_cutE [(6, .bool ((decide (p1 ≤ p0)) && (decide (p0 ≤ p2))))] ?_ ?_
  · skip
    refine wq_val 7 (by kernel_rfl) (fun w1 c1 => (op_move (v := .int .i64 _) rfl)) ?_
    refine wq_val 8 (by kernel_rfl) (fun w1 c1 => (op_move (v := .int .i64 _) rfl)) ?_
    refine wq_dec 9 (by kernel_rfl) (fun w1 c1 => (op_geq rfl rfl)) (fun h1 => ?_) (fun h1 => ?_)
    · skip
      refine wq_val 10 (by kernel_rfl) (fun w1 c1 => (op_move (v := .bool true) rfl)) ?_
      refine wq_val 11 (by kernel_rfl) (fun w1 c1 => (op_move (v := .int .i64 _) rfl)) ?_
      refine wq_val 12 (by kernel_rfl) (fun w1 c1 => (op_move (v := .int .i64 _) rfl)) ?_
      refine wq_val 13 (by kernel_rfl) (fun w1 c1 => (op_leq rfl rfl)) ?_
      refine wq_val 14 (by kernel_rfl) (fun w1 c1 => (op_pick_t (v := .bool _) rfl rfl)) ?_
      refine wq_val 6 (by kernel_rfl) (fun w1 c1 => (op_assign (v := .bool _) rfl)) ?_
      exact leaf_q (sub_out 9 _ rfl (by kernel_rfl) ⟨(congrArg Value.bool (by rw [decide_eq_true h1] <;> rfl)), trivial⟩)
    · skip
      refine wq_val 10 (by kernel_rfl) (fun w1 c1 => (op_move (v := .bool false) rfl)) ?_
      refine wq_skip 11 (by kernel_rfl) ?_
      refine wq_skip 12 (by kernel_rfl) ?_
      refine wq_skip 13 (by kernel_rfl) ?_
      refine wq_val 14 (by kernel_rfl) (fun w1 c1 => (op_pick_f (v := .bool false) rfl rfl)) ?_
      refine wq_val 6 (by kernel_rfl) (fun w1 c1 => (op_assign (v := .bool false) rfl)) ?_
      exact leaf_q (sub_out 9 _ rfl (by kernel_rfl) ⟨(congrArg Value.bool (by rw [decide_eq_false h1] <;> rfl)), trivial⟩)
  refine xm_next ?_
  refine cm_ret ?_
  exact xm_retT rfl (by kernel_rfl) (show _ = Value.bool _ from rfl) fun w1 c1 => ⟨(), rfl, hsub [] (by kernel_rfl) rfl w1 c1⟩
/-- emptying.one -/
def m_emptying_one (N : Nat) (p0 : ApiEmptying) (p1 : Int) (p2 : Int) : Option (Int) :=
  Option.bind (m_emptying_within N p0.ID (1 : Int) (1000000 : Int)) fun r2 => (if (!r2) = true then
    some ((1 : Int))
  else
    (if ((((decide (p0.Container < 0)) || (decide (p1 ≤ p0.Container))) || (decide (p0.Vehicle < 0))) || (decide (p2 ≤ p0.Vehicle))) = true then
      some ((7 : Int))
    else
      Option.bind (m_emptying_within N p0.At (0 : Int) (3155759999 : Int)) fun r9 => (if ((((!r9) || (decide (p0.Mass.Lo < 0))) || (decide (p0.Mass.Hi < p0.Mass.Lo))) || (decide (1073741824 < p0.Mass.Hi))) = true then
        some ((1 : Int))
      else
        some ((0 : Int)))))
set_option maxRecDepth 20000 in
theorem m_emptying_one_ok (N : Nat) (w0 : World) (p0 : ApiEmptying) (p1 : Int) (p2 : Int)   (r : Int) (hr : m_emptying_one N p0 p1 p2 = some r) :
    Calls Try.prog 23 [.agg #[.int .i64 p0.ID, .int .i64 p0.Container, .int .i64 p0.Vehicle, .int .i64 p0.At, .int .i64 p0.Mass.Lo, .int .i64 p0.Mass.Hi, .bool p0.Void], .int .i64 p1, .int .i64 p2].toArray w0 fun x w1 => ∃ u, x = .returned ((fun (r : Int) (_u : Unit) => .int .i64 r) r u) ∧ Hs w0 ((fun (_r : Int) (_u : Unit) => []) r u) w1 := by
  refine calls_cm (n := 59) (R := fun r x w1 => ∃ u, x = .returned ((fun (r : Int) (_u : Unit) => .int .i64 r) r u) ∧ Hs w0 ((fun (_r : Int) (_u : Unit) => []) r u) w1) Try.func23 rfl rfl (Nat.le_of_ble_eq_true rfl) ?_ r hr
  unfold m_emptying_one
  refine cm_seq ?_
  refine cm_region ?_
  refine lm_box 3 [.int .i64 _, .int .i64 _, .int .i64 _, .int .i64 _, .int .i64 _, .int .i64 _, .bool _] (by kernel_rfl) rfl ?_
  intro b1
  refine lm_val 6 (by kernel_rfl) (fun w1 c1 => (op_assign (v := .int .i64 _) rfl)) ?_
  refine lm_nil ?_
  refine xm_next ?_
  refine cm_seq ?_
  refine cm_block ?_
  refine cm_seq ?_
  refine cm_region ?_
  refine lm_val 8 (by kernel_rfl) (fun w1 c1 => (op_fieldL (m := 0) (k := 0) rfl (by kernel_rfl) rfl)) ?_
  refine lm_val 9 (by kernel_rfl) (fun w1 c1 => (op_load rfl (by kernel_rfl) (c1.cell 0 (u := .int .i64 _) rfl rfl))) ?_
  refine lm_call 10 (V := (fun (r : Bool) (_u : Unit) => .bool r)) (HR := (fun (_r : Bool) (_u : Unit) => [])) (by kernel_rfl) (fun w1 => op_call (by kernel_rfl)) (fun r1 hr1 w1 c1 => m_emptying_within_ok N w1 p0.ID (1 : Int) (1000000 : Int)  r1 hr1) ?_
  intro r2 u3
  refine lm_val 11 (by kernel_rfl) (fun w1 c1 => (op_not rfl)) ?_
  refine lm_val 7 (by kernel_rfl) (fun w1 c1 => (op_assign (v := .bool _) rfl)) ?_
  refine lm_nil ?_
  refine xm_next ?_
  refine cm_condB (by kernel_rfl) rfl (fun h4 => ?_) (fun h4 => ?_)
  · skip
    refine cm_seq ?_
    refine cm_region ?_
    refine lm_val 6 (by kernel_rfl) (fun w1 c1 => (op_assign (v := .int .i64 _) rfl)) ?_
    refine lm_nil ?_
    refine xm_next ?_
    refine cm_ret ?_
    refine xm_inR ?_
    refine xm_thenR ?_
    exact xm_retT rfl (by kernel_rfl) (show _ = Value.int .i64 _ from rfl) fun w1 c1 => ⟨(), rfl, hsub [] (by kernel_rfl) rfl w1 c1⟩
  · skip
    refine cm_seq ?_
    refine cm_cutE [(12, .bool ((((decide (p0.Container < 0)) || (decide (p1 ≤ p0.Container))) || (decide (p0.Vehicle < 0))) || (decide (p2 ≤ p0.Vehicle))))] ?_ ?_
    · skip
      refine wq_val 13 (by kernel_rfl) (fun w1 c1 => (op_fieldL (m := 1) (k := 1) rfl (by kernel_rfl) rfl)) ?_
      refine wq_val 14 (by kernel_rfl) (fun w1 c1 => (op_load rfl (by kernel_rfl) (c1.cell 0 (u := .int .i64 _) rfl rfl))) ?_
      refine wq_dec 15 (by kernel_rfl) (fun w1 c1 => (op_lss rfl rfl)) (fun h5 => ?_) (fun h5 => ?_)
      · skip
        refine wq_val 16 (by kernel_rfl) (fun w1 c1 => (op_move (v := .bool true) rfl)) ?_
        refine wq_skip 17 (by kernel_rfl) ?_
        refine wq_skip 18 (by kernel_rfl) ?_
        refine wq_skip 19 (by kernel_rfl) ?_
        refine wq_skip 20 (by kernel_rfl) ?_
        refine wq_val 21 (by kernel_rfl) (fun w1 c1 => (op_pick_t (v := .bool true) rfl rfl)) ?_
        refine wq_val 22 (by kernel_rfl) (fun w1 c1 => (op_move (v := .bool true) rfl)) ?_
        refine wq_skip 23 (by kernel_rfl) ?_
        refine wq_skip 24 (by kernel_rfl) ?_
        refine wq_skip 25 (by kernel_rfl) ?_
        refine wq_val 26 (by kernel_rfl) (fun w1 c1 => (op_pick_t (v := .bool true) rfl rfl)) ?_
        refine wq_val 27 (by kernel_rfl) (fun w1 c1 => (op_move (v := .bool true) rfl)) ?_
        refine wq_skip 28 (by kernel_rfl) ?_
        refine wq_skip 29 (by kernel_rfl) ?_
        refine wq_skip 30 (by kernel_rfl) ?_
        refine wq_skip 31 (by kernel_rfl) ?_
        refine wq_val 32 (by kernel_rfl) (fun w1 c1 => (op_pick_t (v := .bool true) rfl rfl)) ?_
        refine wq_val 12 (by kernel_rfl) (fun w1 c1 => (op_assign (v := .bool true) rfl)) ?_
        exact leaf_q (sub_out 21 _ rfl (by kernel_rfl) ⟨(congrArg Value.bool (by rw [decide_eq_true h5] <;> rfl)), trivial⟩)
      · skip
        refine wq_val 16 (by kernel_rfl) (fun w1 c1 => (op_move (v := .bool false) rfl)) ?_
        refine wq_val 17 (by kernel_rfl) (fun w1 c1 => (op_fieldL (m := 1) (k := 1) rfl (by kernel_rfl) rfl)) ?_
        refine wq_val 18 (by kernel_rfl) (fun w1 c1 => (op_load rfl (by kernel_rfl) (c1.cell 0 (u := .int .i64 _) rfl rfl))) ?_
        refine wq_val 19 (by kernel_rfl) (fun w1 c1 => (op_move (v := .int .i64 _) rfl)) ?_
        refine wq_dec 20 (by kernel_rfl) (fun w1 c1 => (op_geq rfl rfl)) (fun h6 => ?_) (fun h6 => ?_)
        · skip
          refine wq_val 21 (by kernel_rfl) (fun w1 c1 => (op_pick_f (v := .bool true) rfl rfl)) ?_
          refine wq_val 22 (by kernel_rfl) (fun w1 c1 => (op_move (v := .bool true) rfl)) ?_
          refine wq_skip 23 (by kernel_rfl) ?_
          refine wq_skip 24 (by kernel_rfl) ?_
          refine wq_skip 25 (by kernel_rfl) ?_
          refine wq_val 26 (by kernel_rfl) (fun w1 c1 => (op_pick_t (v := .bool true) rfl rfl)) ?_
          refine wq_val 27 (by kernel_rfl) (fun w1 c1 => (op_move (v := .bool true) rfl)) ?_
          refine wq_skip 28 (by kernel_rfl) ?_
          refine wq_skip 29 (by kernel_rfl) ?_
          refine wq_skip 30 (by kernel_rfl) ?_
          refine wq_skip 31 (by kernel_rfl) ?_
          refine wq_val 32 (by kernel_rfl) (fun w1 c1 => (op_pick_t (v := .bool true) rfl rfl)) ?_
          refine wq_val 12 (by kernel_rfl) (fun w1 c1 => (op_assign (v := .bool true) rfl)) ?_
          exact leaf_q (sub_out 21 _ rfl (by kernel_rfl) ⟨(congrArg Value.bool (by rw [decide_eq_false h5, decide_eq_true h6] <;> rfl)), trivial⟩)
        · skip
          refine wq_val 21 (by kernel_rfl) (fun w1 c1 => (op_pick_f (v := .bool false) rfl rfl)) ?_
          refine wq_val 22 (by kernel_rfl) (fun w1 c1 => (op_move (v := .bool false) rfl)) ?_
          refine wq_val 23 (by kernel_rfl) (fun w1 c1 => (op_fieldL (m := 2) (k := 2) rfl (by kernel_rfl) rfl)) ?_
          refine wq_val 24 (by kernel_rfl) (fun w1 c1 => (op_load rfl (by kernel_rfl) (c1.cell 0 (u := .int .i64 _) rfl rfl))) ?_
          refine wq_dec 25 (by kernel_rfl) (fun w1 c1 => (op_lss rfl rfl)) (fun h7 => ?_) (fun h7 => ?_)
          · skip
            refine wq_val 26 (by kernel_rfl) (fun w1 c1 => (op_pick_f (v := .bool true) rfl rfl)) ?_
            refine wq_val 27 (by kernel_rfl) (fun w1 c1 => (op_move (v := .bool true) rfl)) ?_
            refine wq_skip 28 (by kernel_rfl) ?_
            refine wq_skip 29 (by kernel_rfl) ?_
            refine wq_skip 30 (by kernel_rfl) ?_
            refine wq_skip 31 (by kernel_rfl) ?_
            refine wq_val 32 (by kernel_rfl) (fun w1 c1 => (op_pick_t (v := .bool true) rfl rfl)) ?_
            refine wq_val 12 (by kernel_rfl) (fun w1 c1 => (op_assign (v := .bool true) rfl)) ?_
            exact leaf_q (sub_out 21 _ rfl (by kernel_rfl) ⟨(congrArg Value.bool (by rw [decide_eq_false h5, decide_eq_false h6, decide_eq_true h7] <;> rfl)), trivial⟩)
          · skip
            refine wq_val 26 (by kernel_rfl) (fun w1 c1 => (op_pick_f (v := .bool false) rfl rfl)) ?_
            refine wq_val 27 (by kernel_rfl) (fun w1 c1 => (op_move (v := .bool false) rfl)) ?_
            refine wq_val 28 (by kernel_rfl) (fun w1 c1 => (op_fieldL (m := 2) (k := 2) rfl (by kernel_rfl) rfl)) ?_
            refine wq_val 29 (by kernel_rfl) (fun w1 c1 => (op_load rfl (by kernel_rfl) (c1.cell 0 (u := .int .i64 _) rfl rfl))) ?_
            refine wq_val 30 (by kernel_rfl) (fun w1 c1 => (op_move (v := .int .i64 _) rfl)) ?_
            refine wq_val 31 (by kernel_rfl) (fun w1 c1 => (op_geq rfl rfl)) ?_
            refine wq_val 32 (by kernel_rfl) (fun w1 c1 => (op_pick_f (v := .bool _) rfl rfl)) ?_
            refine wq_val 12 (by kernel_rfl) (fun w1 c1 => (op_assign (v := .bool _) rfl)) ?_
            exact leaf_q (sub_out 21 _ rfl (by kernel_rfl) ⟨(congrArg Value.bool (by rw [decide_eq_false h5, decide_eq_false h6, decide_eq_false h7] <;> rfl)), trivial⟩)
    refine xm_next ?_
    refine cm_condB (by kernel_rfl) rfl (fun h8 => ?_) (fun h8 => ?_)
    · skip
      refine cm_seq ?_
      refine cm_region ?_
      refine lm_val 6 (by kernel_rfl) (fun w1 c1 => (op_assign (v := .int .i64 _) rfl)) ?_
      refine lm_nil ?_
      refine xm_next ?_
      refine cm_ret ?_
      refine xm_inR ?_
      refine xm_thenR ?_
      exact xm_retT rfl (by kernel_rfl) (show _ = Value.int .i64 _ from rfl) fun w1 c1 => ⟨(), rfl, hsub [] (by kernel_rfl) rfl w1 c1⟩
    · skip
      refine cm_seq ?_
      refine cm_bind fun r9 h10 => ?_
      refine cm_cutE [(33, .bool ((((!r9) || (decide (p0.Mass.Lo < 0))) || (decide (p0.Mass.Hi < p0.Mass.Lo))) || (decide (1073741824 < p0.Mass.Hi))))] ?_ ?_
      · skip
        refine wq_val 34 (by kernel_rfl) (fun w1 c1 => (op_fieldL (m := 3) (k := 3) rfl (by kernel_rfl) rfl)) ?_
        refine wq_val 35 (by kernel_rfl) (fun w1 c1 => (op_load rfl (by kernel_rfl) (c1.cell 0 (u := .int .i64 _) rfl rfl))) ?_
        refine wq_callb 36 (by kernel_rfl) (fun w1 c1 => op_call (by kernel_rfl)) (fun w1 c1 => (m_emptying_within_ok N w1 p0.At (0 : Int) (3155759999 : Int)  r9 h10).mono (fun _ _ ⟨_, hx, hu⟩ => ⟨hx, c1.call hu⟩)) (fun h11 => ?_) (fun h11 => ?_)
        · skip
          refine wq_val 37 (by kernel_rfl) (fun w1 c1 => (op_nott rfl)) ?_
          refine wq_val 38 (by kernel_rfl) (fun w1 c1 => (op_move (v := .bool false) rfl)) ?_
          refine wq_val 39 (by kernel_rfl) (fun w1 c1 => (op_fieldL (m := 4) (k := 4) rfl (by kernel_rfl) rfl)) ?_
          refine wq_val 40 (by kernel_rfl) (fun w1 c1 => (op_fieldL (m := 0) (k := 4) rfl (by kernel_rfl) rfl)) ?_
          refine wq_val 41 (by kernel_rfl) (fun w1 c1 => (op_load rfl (by kernel_rfl) (c1.cell 0 (u := .int .i64 _) rfl rfl))) ?_
          refine wq_dec 42 (by kernel_rfl) (fun w1 c1 => (op_lss rfl rfl)) (fun h12 => ?_) (fun h12 => ?_)
          · skip
            refine wq_val 43 (by kernel_rfl) (fun w1 c1 => (op_pick_f (v := .bool true) rfl rfl)) ?_
            refine wq_val 44 (by kernel_rfl) (fun w1 c1 => (op_move (v := .bool true) rfl)) ?_
            refine wq_skip 45 (by kernel_rfl) ?_
            refine wq_skip 46 (by kernel_rfl) ?_
            refine wq_skip 47 (by kernel_rfl) ?_
            refine wq_skip 48 (by kernel_rfl) ?_
            refine wq_skip 49 (by kernel_rfl) ?_
            refine wq_skip 50 (by kernel_rfl) ?_
            refine wq_skip 51 (by kernel_rfl) ?_
            refine wq_val 52 (by kernel_rfl) (fun w1 c1 => (op_pick_t (v := .bool true) rfl rfl)) ?_
            refine wq_val 53 (by kernel_rfl) (fun w1 c1 => (op_move (v := .bool true) rfl)) ?_
            refine wq_skip 54 (by kernel_rfl) ?_
            refine wq_skip 55 (by kernel_rfl) ?_
            refine wq_skip 56 (by kernel_rfl) ?_
            refine wq_skip 57 (by kernel_rfl) ?_
            refine wq_val 58 (by kernel_rfl) (fun w1 c1 => (op_pick_t (v := .bool true) rfl rfl)) ?_
            refine wq_val 33 (by kernel_rfl) (fun w1 c1 => (op_assign (v := .bool true) rfl)) ?_
            exact leaf_q (sub_out 26 _ rfl (by kernel_rfl) ⟨(congrArg Value.bool (by rw [h11, decide_eq_true h12] <;> rfl)), trivial⟩)
          · skip
            refine wq_val 43 (by kernel_rfl) (fun w1 c1 => (op_pick_f (v := .bool false) rfl rfl)) ?_
            refine wq_val 44 (by kernel_rfl) (fun w1 c1 => (op_move (v := .bool false) rfl)) ?_
            refine wq_val 45 (by kernel_rfl) (fun w1 c1 => (op_fieldL (m := 4) (k := 4) rfl (by kernel_rfl) rfl)) ?_
            refine wq_val 46 (by kernel_rfl) (fun w1 c1 => (op_fieldL (m := 0) (k := 4) rfl (by kernel_rfl) rfl)) ?_
            refine wq_val 47 (by kernel_rfl) (fun w1 c1 => (op_load rfl (by kernel_rfl) (c1.cell 0 (u := .int .i64 _) rfl rfl))) ?_
            refine wq_val 48 (by kernel_rfl) (fun w1 c1 => (op_fieldL (m := 4) (k := 4) rfl (by kernel_rfl) rfl)) ?_
            refine wq_val 49 (by kernel_rfl) (fun w1 c1 => (op_fieldL (m := 1) (k := 5) rfl (by kernel_rfl) rfl)) ?_
            refine wq_val 50 (by kernel_rfl) (fun w1 c1 => (op_load rfl (by kernel_rfl) (c1.cell 0 (u := .int .i64 _) rfl rfl))) ?_
            refine wq_dec 51 (by kernel_rfl) (fun w1 c1 => (op_gtr rfl rfl)) (fun h13 => ?_) (fun h13 => ?_)
            · skip
              refine wq_val 52 (by kernel_rfl) (fun w1 c1 => (op_pick_f (v := .bool true) rfl rfl)) ?_
              refine wq_val 53 (by kernel_rfl) (fun w1 c1 => (op_move (v := .bool true) rfl)) ?_
              refine wq_skip 54 (by kernel_rfl) ?_
              refine wq_skip 55 (by kernel_rfl) ?_
              refine wq_skip 56 (by kernel_rfl) ?_
              refine wq_skip 57 (by kernel_rfl) ?_
              refine wq_val 58 (by kernel_rfl) (fun w1 c1 => (op_pick_t (v := .bool true) rfl rfl)) ?_
              refine wq_val 33 (by kernel_rfl) (fun w1 c1 => (op_assign (v := .bool true) rfl)) ?_
              exact leaf_q (sub_out 26 _ rfl (by kernel_rfl) ⟨(congrArg Value.bool (by rw [h11, decide_eq_false h12, decide_eq_true h13] <;> rfl)), trivial⟩)
            · skip
              refine wq_val 52 (by kernel_rfl) (fun w1 c1 => (op_pick_f (v := .bool false) rfl rfl)) ?_
              refine wq_val 53 (by kernel_rfl) (fun w1 c1 => (op_move (v := .bool false) rfl)) ?_
              refine wq_val 54 (by kernel_rfl) (fun w1 c1 => (op_fieldL (m := 4) (k := 4) rfl (by kernel_rfl) rfl)) ?_
              refine wq_val 55 (by kernel_rfl) (fun w1 c1 => (op_fieldL (m := 1) (k := 5) rfl (by kernel_rfl) rfl)) ?_
              refine wq_val 56 (by kernel_rfl) (fun w1 c1 => (op_load rfl (by kernel_rfl) (c1.cell 0 (u := .int .i64 _) rfl rfl))) ?_
              refine wq_val 57 (by kernel_rfl) (fun w1 c1 => (op_gtr rfl rfl)) ?_
              refine wq_val 58 (by kernel_rfl) (fun w1 c1 => (op_pick_f (v := .bool _) rfl rfl)) ?_
              refine wq_val 33 (by kernel_rfl) (fun w1 c1 => (op_assign (v := .bool _) rfl)) ?_
              exact leaf_q (sub_out 26 _ rfl (by kernel_rfl) ⟨(congrArg Value.bool (by rw [h11, decide_eq_false h12, decide_eq_false h13] <;> rfl)), trivial⟩)
        · skip
          refine wq_val 37 (by kernel_rfl) (fun w1 c1 => (op_notf rfl)) ?_
          refine wq_val 38 (by kernel_rfl) (fun w1 c1 => (op_move (v := .bool true) rfl)) ?_
          refine wq_skip 39 (by kernel_rfl) ?_
          refine wq_skip 40 (by kernel_rfl) ?_
          refine wq_skip 41 (by kernel_rfl) ?_
          refine wq_skip 42 (by kernel_rfl) ?_
          refine wq_val 43 (by kernel_rfl) (fun w1 c1 => (op_pick_t (v := .bool true) rfl rfl)) ?_
          refine wq_val 44 (by kernel_rfl) (fun w1 c1 => (op_move (v := .bool true) rfl)) ?_
          refine wq_skip 45 (by kernel_rfl) ?_
          refine wq_skip 46 (by kernel_rfl) ?_
          refine wq_skip 47 (by kernel_rfl) ?_
          refine wq_skip 48 (by kernel_rfl) ?_
          refine wq_skip 49 (by kernel_rfl) ?_
          refine wq_skip 50 (by kernel_rfl) ?_
          refine wq_skip 51 (by kernel_rfl) ?_
          refine wq_val 52 (by kernel_rfl) (fun w1 c1 => (op_pick_t (v := .bool true) rfl rfl)) ?_
          refine wq_val 53 (by kernel_rfl) (fun w1 c1 => (op_move (v := .bool true) rfl)) ?_
          refine wq_skip 54 (by kernel_rfl) ?_
          refine wq_skip 55 (by kernel_rfl) ?_
          refine wq_skip 56 (by kernel_rfl) ?_
          refine wq_skip 57 (by kernel_rfl) ?_
          refine wq_val 58 (by kernel_rfl) (fun w1 c1 => (op_pick_t (v := .bool true) rfl rfl)) ?_
          refine wq_val 33 (by kernel_rfl) (fun w1 c1 => (op_assign (v := .bool true) rfl)) ?_
          exact leaf_q (sub_out 26 _ rfl (by kernel_rfl) ⟨(congrArg Value.bool (by rw [h11] <;> rfl)), trivial⟩)
      refine xm_next ?_
      refine cm_condB (by kernel_rfl) rfl (fun h14 => ?_) (fun h14 => ?_)
      · skip
        refine cm_seq ?_
        refine cm_region ?_
        refine lm_val 6 (by kernel_rfl) (fun w1 c1 => (op_assign (v := .int .i64 _) rfl)) ?_
        refine lm_nil ?_
        refine xm_next ?_
        refine cm_ret ?_
        refine xm_inR ?_
        refine xm_thenR ?_
        exact xm_retT rfl (by kernel_rfl) (show _ = Value.int .i64 _ from rfl) fun w1 c1 => ⟨(), rfl, hsub [] (by kernel_rfl) rfl w1 c1⟩
      · skip
        refine cm_skip ?_
        refine xm_inN ?_
        refine xm_next ?_
        refine cm_seq ?_
        refine cm_region ?_
        refine lm_val 6 (by kernel_rfl) (fun w1 c1 => (op_assign (v := .int .i64 _) rfl)) ?_
        refine lm_nil ?_
        refine xm_next ?_
        refine cm_ret ?_
        exact xm_retT rfl (by kernel_rfl) (show _ = Value.int .i64 _ from rfl) fun w1 c1 => ⟨(), rfl, hsub [] (by kernel_rfl) rfl w1 c1⟩
/-- emptying.Check -/
def m_emptying_Check (N : Nat) (p0 : (List ApiEmptying)) (p1 : Int) (p2 : Int) : Option (Int) :=
  (if 512 < (List.length p0 : Int) then
    some ((8 : Int))
  else
    (andThen
      (loopM (fun (s49 : Int) =>
        (if s49 < (List.length p0 : Int) then
          ck ((0 : Int) ≤ s49 ∧ s49 < (List.length p0 : Int)) (
            Option.bind (m_emptying_one N (ix p0 s49) p1 p2) fun r54 => (if r54 ≠ 0 then
              some (.done (.done (r54)))
            else
              ck (I64 (s49 + (1 : Int))) (
                some (.next (s49 + (1 : Int))))))
        else
          some (.done (.next ())))) N (0 : Int))
    fun (_s29 : Unit) =>
      (andThen
        (loopM (fun (s106 : (List (Int × Bool)) × Int) =>
          (if s106.2 < (List.length p0 : Int) then
            ck ((0 : Int) ≤ s106.2 ∧ s106.2 < (List.length p0 : Int)) (
              ck (I64 ((ix p0 s106.2).ID)) (
                (if (Option.getD (mget s106.1 ((ix p0 s106.2).ID)) false) = true then
                  some (.done (.done ((6 : Int))))
                else
                  ck (I64 ((ix p0 s106.2).ID)) (
                    ck (I64 (s106.2 + (1 : Int))) (
                      some (.next ((mput s106.1 ((ix p0 s106.2).ID) true), (s106.2 + (1 : Int)))))))))
          else
            some (.done (.next ())))) N (([] : (List (Int × Bool))), (0 : Int)))
      fun (_s86 : Unit) =>
        some ((0 : Int)))))
set_option maxRecDepth 20000 in
theorem m_emptying_Check_ok (N : Nat) (w0 : World) (p0 : (List ApiEmptying)) (p1 : Int) (p2 : Int) (A_p0 : Option Addr) (n_p0 c_p0 : Nat) (hr_p0 : RdE w0 7 encApiEmptying A_p0 p0) (hz_p0 : SW A_p0 n_p0 c_p0 (List.length p0)) (r : Int) (hr : m_emptying_Check N p0 p1 p2 = some r) :
    Calls Try.prog 13 [.slice A_p0 n_p0 c_p0, .int .i64 p1, .int .i64 p2].toArray w0 fun x w1 => ∃ u, x = .returned ((fun (r : Int) (_u : Unit) => .int .i64 r) r u) ∧ Hs w0 ((fun (_r : Int) (_u : Unit) => []) r u) w1 := by
  refine calls_cm (n := 45) (R := fun r x w1 => ∃ u, x = .returned ((fun (r : Int) (_u : Unit) => .int .i64 r) r u) ∧ Hs w0 ((fun (_r : Int) (_u : Unit) => []) r u) w1) Try.func13 rfl rfl (Nat.le_of_ble_eq_true rfl) ?_ r hr
  unfold m_emptying_Check
  refine cm_seq ?_
  refine cm_region ?_
  refine lm_val 6 (by kernel_rfl) (fun w1 c1 => (op_assign (v := .int .i64 _) rfl)) ?_
  refine lm_nil ?_
  refine xm_next ?_
  refine cm_seq ?_
  refine cm_seq ?_
  refine cm_region ?_
  refine lm_val 13 (by kernel_rfl) (fun w1 c1 => (op_move (v := .slice _ _ _) rfl)) ?_
  refine lm_val 14 (by kernel_rfl) (fun w1 c1 => (op_lenN rfl (by kernel_rfl) hz_p0.2.2)) ?_
  refine lm_val 15 (by kernel_rfl) (fun w1 c1 => (op_gtr rfl rfl)) ?_
  refine lm_nil ?_
  refine xm_next ?_
  refine cm_cond (by kernel_rfl) rfl (fun h1 => ?_) (fun h1 => ?_)
  · skip
    refine cm_seq ?_
    refine cm_region ?_
    refine lm_val 6 (by kernel_rfl) (fun w1 c1 => (op_assign (v := .int .i64 _) rfl)) ?_
    refine lm_nil ?_
    refine xm_next ?_
    refine cm_ret ?_
    refine xm_thenR ?_
    exact xm_retT rfl (by kernel_rfl) (show _ = Value.int .i64 _ from rfl) fun w1 c1 => ⟨(), rfl, hsub [] (by kernel_rfl) rfl w1 c1⟩
  · skip
    refine cm_skip ?_
    refine xm_next ?_
    refine cm_join (σ := Unit) (ξ := Unit) (fun s29 u30 => [(0, .slice A_p0 n_p0 c_p0)]) (fun s29 u30 => []) ?_ ?_
    · skip
      refine cm_seq ?_
      refine cm_region ?_
      refine lm_val 16 (by kernel_rfl) (fun w1 c1 => (op_move (v := .slice _ _ _) rfl)) ?_
      refine lm_val 17 (by kernel_rfl) (fun w1 c1 => (op_lenN rfl (by kernel_rfl) hz_p0.2.2)) ?_
      refine lm_val 18 (by kernel_rfl) (fun w1 c1 => (op_move (v := .int .i64 _) rfl)) ?_
      refine lm_nil ?_
      refine xm_next ?_
      refine cm_block ?_
      refine cm_loop (σ := Int) (ξ := Unit) (fun s49 u50 => [(0, .slice A_p0 n_p0 c_p0), (1, .int .i64 p1), (2, .int .i64 p2), (16, .slice A_p0 n_p0 c_p0), (17, .int .i64 (List.length p0 : Int)), (18, .int .i64 s49)]) (fun s49 u50 => []) () ?_ ?_ ?_
      · exact (sub_cons (by kernel_rfl) rfl (sub_cons (by kernel_rfl) rfl (sub_cons (by kernel_rfl) rfl (sub_cons (by kernel_rfl) rfl (sub_cons (by kernel_rfl) rfl (sub_cons (by kernel_rfl) rfl sub_nil))))))
      · exact hsub [] (by kernel_rfl) rfl
      intro s49 u50
      refine cm_seq ?_
      refine cm_region ?_
      refine lm_val 19 (by kernel_rfl) (fun w1 c1 => (op_lss rfl rfl)) ?_
      refine lm_nil ?_
      refine xm_next ?_
      refine cm_seq ?_
      refine cm_cond (by kernel_rfl) rfl (fun h51 => ?_) (fun h51 => ?_)
      · skip
        refine cm_skip ?_
        refine xm_next ?_
        refine cm_seq ?_
        refine cm_block ?_
        refine cm_seq ?_
        refine cm_region ?_
        refine lm_ck (fun h52 => ?_)
        refine lm_val 20 (by kernel_rfl) (fun w1 c1 => (op_indexA 7 rfl rfl (by kernel_rfl) ((hr_p0.old c1).addr h52.1 h52.2) hz_p0.2.2 h52.1 h52.2)) ?_
        refine lm_val 21 (by kernel_rfl) (fun w1 c1 => (op_loadR [.int .i64 ((ix p0 s49).ID), .int .i64 ((ix p0 s49).Container), .int .i64 ((ix p0 s49).Vehicle), .int .i64 ((ix p0 s49).At), .int .i64 ((ix p0 s49).Mass.Lo), .int .i64 ((ix p0 s49).Mass.Hi), .bool ((ix p0 s49).Void)] rfl (by kernel_rfl) ((hr_p0.old c1).row h52.1 h52.2))) ?_
        refine lm_alloc 8 [.int .i64 0, .int .i64 0, .int .i64 0, .int .i64 0, .int .i64 0, .int .i64 0, .bool false] (v := .agg #[.int .i64 0, .int .i64 0, .int .i64 0, .int .i64 0, .int .i64 0, .int .i64 0, .bool false]) (by kernel_rfl) (by kernel_rfl) rfl ?_
        intro b53
        refine lm_storeA 0 [.int .i64 _, .int .i64 _, .int .i64 _, .int .i64 _, .int .i64 _, .int .i64 _, .bool _] [_, _, _, _, _, _, _] (H' := [blkE _ _ [_, _, _, _, _, _, _]]) (by kernel_rfl) rfl rfl (by kernel_rfl) rfl rfl (by kernel_rfl) rfl rfl ?_
        refine lm_nil ?_
        refine xm_next ?_
        refine cm_seq ?_
        refine cm_region ?_
        refine lm_val 22 (by kernel_rfl) (fun w1 c1 => (op_loadR [.int .i64 _, .int .i64 _, .int .i64 _, .int .i64 _, .int .i64 _, .int .i64 _, .bool _] rfl (by kernel_rfl) (c1.cells 0 rfl rfl))) ?_
        refine lm_val 23 (by kernel_rfl) (fun w1 c1 => (op_move (v := .int .i64 _) rfl)) ?_
        refine lm_val 24 (by kernel_rfl) (fun w1 c1 => (op_move (v := .int .i64 _) rfl)) ?_
        refine lm_call 25 (V := (fun (r : Int) (_u : Unit) => .int .i64 r)) (HR := (fun (_r : Int) (_u : Unit) => [])) (by kernel_rfl) (fun w1 => op_call (by kernel_rfl)) (fun r1 hr1 w1 c1 => m_emptying_one_ok N w1 (ix p0 s49) p1 p2  r1 hr1) ?_
        intro r54 u55
        refine lm_val 9 (by kernel_rfl) (fun w1 c1 => (op_assign (v := .int .i64 _) rfl)) ?_
        refine lm_nil ?_
        refine xm_next ?_
        refine cm_seq ?_
        refine cm_region ?_
        refine lm_val 26 (by kernel_rfl) (fun w1 c1 => (op_move (v := .int .i64 _) rfl)) ?_
        refine lm_val 27 (by kernel_rfl) (fun w1 c1 => (op_neq rfl rfl)) ?_
        refine lm_nil ?_
        refine xm_next ?_
        refine cm_cond (by kernel_rfl) rfl (fun h56 => ?_) (fun h56 => ?_)
        · skip
          refine cm_seq ?_
          refine cm_region ?_
          refine lm_val 28 (by kernel_rfl) (fun w1 c1 => (op_move (v := .int .i64 _) rfl)) ?_
          refine lm_val 6 (by kernel_rfl) (fun w1 c1 => (op_assign (v := .int .i64 _) rfl)) ?_
          refine lm_nil ?_
          refine xm_next ?_
          refine cm_ret ?_
          refine xm_inR ?_
          refine xm_thenR ?_
          refine xm_lret ?_
          refine xm_inR ?_
          refine xm_lret ?_
          exact xm_retT rfl (by kernel_rfl) (show _ = Value.int .i64 _ from rfl) fun w1 c1 => ⟨(), rfl, hsub [] (by kernel_rfl) rfl w1 c1⟩
        · skip
          refine cm_skip ?_
          refine xm_inN ?_
          refine xm_next ?_
          refine cm_region ?_
          refine lm_ck (fun h57 => ?_)
          refine lm_val 29 (by kernel_rfl) (fun w1 c1 => (op_add rfl rfl h57)) ?_
          refine lm_val 18 (by kernel_rfl) (fun w1 c1 => (op_move (v := .int .i64 _) rfl)) ?_
          refine lm_nil ?_
          exact xm_lnext () (sub_cons (by kernel_rfl) rfl (sub_cons (by kernel_rfl) rfl (sub_cons (by kernel_rfl) rfl (sub_cons (by kernel_rfl) rfl (sub_cons (by kernel_rfl) rfl (sub_cons (by kernel_rfl) rfl sub_nil)))))) (hsub [] (by kernel_rfl) rfl)
      · skip
        refine cm_exit ?_
        refine xm_thenE ?_
        refine xm_lexit ?_
        refine xm_here ?_
        exact xm_lnext () (sub_cons (by kernel_rfl) rfl sub_nil) (hsub [] (by kernel_rfl) rfl)
    intro s29 u30
    refine cm_seq ?_
    refine cm_region ?_
    refine lm_makeMap (κ := Int) (α := Bool) 30 3 (Value.int .i64) Value.bool (by kernel_rfl) ?_
    intro b58
    refine lm_val 10 (by kernel_rfl) (fun w1 c1 => (op_assign (v := .map (some _)) rfl)) ?_
    refine lm_nil ?_
    refine xm_next ?_
    refine cm_join (σ := Unit) (ξ := Unit) (fun s86 u87 => []) (fun s86 u87 => []) ?_ ?_
    · skip
      refine cm_seq ?_
      refine cm_region ?_
      refine lm_val 31 (by kernel_rfl) (fun w1 c1 => (op_move (v := .slice _ _ _) rfl)) ?_
      refine lm_val 32 (by kernel_rfl) (fun w1 c1 => (op_lenN rfl (by kernel_rfl) hz_p0.2.2)) ?_
      refine lm_val 33 (by kernel_rfl) (fun w1 c1 => (op_move (v := .int .i64 _) rfl)) ?_
      refine lm_nil ?_
      refine xm_next ?_
      refine cm_block ?_
      refine cm_loop (σ := (List (Int × Bool)) × Int) (ξ := Unit) (fun s106 u107 => [(10, .map (some b58)), (31, .slice A_p0 n_p0 c_p0), (32, .int .i64 (List.length p0 : Int)), (33, .int .i64 s106.2)]) (fun s106 u107 => [mapE Try.prog 3 (Value.int .i64) Value.bool b58 s106.1]) () ?_ ?_ ?_
      · exact (sub_cons (by kernel_rfl) rfl (sub_cons (by kernel_rfl) rfl (sub_cons (by kernel_rfl) rfl (sub_cons (by kernel_rfl) rfl sub_nil))))
      · exact hsub [0] (by kernel_rfl) rfl
      intro s106 u107
      refine cm_seq ?_
      refine cm_region ?_
      refine lm_val 34 (by kernel_rfl) (fun w1 c1 => (op_lss rfl rfl)) ?_
      refine lm_nil ?_
      refine xm_next ?_
      refine cm_seq ?_
      refine cm_cond (by kernel_rfl) rfl (fun h108 => ?_) (fun h108 => ?_)
      · skip
        refine cm_skip ?_
        refine xm_next ?_
        refine cm_seq ?_
        refine cm_block ?_
        refine cm_seq ?_
        refine cm_region ?_
        refine lm_ck (fun h109 => ?_)
        refine lm_val 35 (by kernel_rfl) (fun w1 c1 => (op_indexA 7 rfl rfl (by kernel_rfl) ((hr_p0.old c1).addr h109.1 h109.2) hz_p0.2.2 h109.1 h109.2)) ?_
        refine lm_val 36 (by kernel_rfl) (fun w1 c1 => (op_loadR [.int .i64 ((ix p0 s106.2).ID), .int .i64 ((ix p0 s106.2).Container), .int .i64 ((ix p0 s106.2).Vehicle), .int .i64 ((ix p0 s106.2).At), .int .i64 ((ix p0 s106.2).Mass.Lo), .int .i64 ((ix p0 s106.2).Mass.Hi), .bool ((ix p0 s106.2).Void)] rfl (by kernel_rfl) ((hr_p0.old c1).row h109.1 h109.2))) ?_
        refine lm_alloc 12 [.int .i64 0, .int .i64 0, .int .i64 0, .int .i64 0, .int .i64 0, .int .i64 0, .bool false] (v := .agg #[.int .i64 0, .int .i64 0, .int .i64 0, .int .i64 0, .int .i64 0, .int .i64 0, .bool false]) (by kernel_rfl) (by kernel_rfl) rfl ?_
        intro b110
        refine lm_storeA 0 [.int .i64 _, .int .i64 _, .int .i64 _, .int .i64 _, .int .i64 _, .int .i64 _, .bool _] [_, _, _, _, _, _, _] (H' := [blkE _ _ [_, _, _, _, _, _, _], _]) (by kernel_rfl) rfl rfl (by kernel_rfl) rfl rfl (by kernel_rfl) rfl rfl ?_
        refine lm_nil ?_
        refine xm_next ?_
        refine cm_seq ?_
        refine cm_seq ?_
        refine cm_region ?_
        refine lm_val 37 (by kernel_rfl) (fun w1 c1 => (op_move (v := .map (some _)) rfl)) ?_
        refine lm_val 38 (by kernel_rfl) (fun w1 c1 => (op_fieldL (m := 0) (k := 0) rfl (by kernel_rfl) rfl)) ?_
        refine lm_val 39 (by kernel_rfl) (fun w1 c1 => (op_load rfl (by kernel_rfl) (c1.cell 0 (u := .int .i64 _) rfl rfl))) ?_
        refine lm_ck (fun h111 => ?_)
        refine lm_val 40 (by kernel_rfl) (fun w1 c1 => (op_lookup (κ := Int) (α := Bool) (ek := (Value.int .i64)) (ev := Value.bool) (l := s106.1) (y := ((ix p0 s106.2).ID)) false rfl rfl (Maps.int_keyed Try.underlying3) (ek_int .i64) (key_i64 Try.underlying3 h111) Try.underlying53 rfl (c1.map 1 rfl))) ?_
        refine lm_nil ?_
        refine xm_next ?_
        refine cm_condB (by kernel_rfl) rfl (fun h112 => ?_) (fun h112 => ?_)
        · skip
          refine cm_seq ?_
          refine cm_region ?_
          refine lm_val 6 (by kernel_rfl) (fun w1 c1 => (op_assign (v := .int .i64 _) rfl)) ?_
          refine lm_nil ?_
          refine xm_next ?_
          refine cm_ret ?_
          refine xm_thenR ?_
          refine xm_inR ?_
          refine xm_thenR ?_
          refine xm_lret ?_
          refine xm_inR ?_
          refine xm_lret ?_
          exact xm_retT rfl (by kernel_rfl) (show _ = Value.int .i64 _ from rfl) fun w1 c1 => ⟨(), rfl, hsub [] (by kernel_rfl) rfl w1 c1⟩
        · skip
          refine cm_skip ?_
          refine xm_next ?_
          refine cm_region ?_
          refine lm_val 41 (by kernel_rfl) (fun w1 c1 => (op_move (v := .map (some _)) rfl)) ?_
          refine lm_val 42 (by kernel_rfl) (fun w1 c1 => (op_fieldL (m := 0) (k := 0) rfl (by kernel_rfl) rfl)) ?_
          refine lm_val 43 (by kernel_rfl) (fun w1 c1 => (op_load rfl (by kernel_rfl) (c1.cell 0 (u := .int .i64 _) rfl rfl))) ?_
          refine lm_ck (fun h113 => ?_)
          refine lm_mapUpdate 1 (κ := Int) (α := Bool) (ek := (Value.int .i64)) (ev := Value.bool) (l := s106.1) (y := ((ix p0 s106.2).ID)) (a := true) (by kernel_rfl) rfl rfl rfl (Maps.int_keyed Try.underlying3) (ek_int .i64) (key_i64 Try.underlying3 h113) Try.underlying53 rfl rfl ?_
          refine lm_nil ?_
          refine xm_inN ?_
          refine xm_next ?_
          refine cm_region ?_
          refine lm_ck (fun h114 => ?_)
          refine lm_val 44 (by kernel_rfl) (fun w1 c1 => (op_add rfl rfl h114)) ?_
          refine lm_val 33 (by kernel_rfl) (fun w1 c1 => (op_move (v := .int .i64 _) rfl)) ?_
          refine lm_nil ?_
          exact xm_lnext () (sub_cons (by kernel_rfl) rfl (sub_cons (by kernel_rfl) rfl (sub_cons (by kernel_rfl) rfl (sub_cons (by kernel_rfl) rfl sub_nil)))) (hsub [1] (by kernel_rfl) rfl)
      · skip
        refine cm_exit ?_
        refine xm_thenE ?_
        refine xm_lexit ?_
        refine xm_here ?_
        exact xm_lnext () sub_nil (hsub [] (by kernel_rfl) rfl)
    intro s86 u87
    refine cm_seq ?_
    refine cm_region ?_
    refine lm_val 6 (by kernel_rfl) (fun w1 c1 => (op_assign (v := .int .i64 _) rfl)) ?_
    refine lm_nil ?_
    refine xm_next ?_
    refine cm_ret ?_
    exact xm_retT rfl (by kernel_rfl) (show _ = Value.int .i64 _ from rfl) fun w1 c1 => ⟨(), rfl, hsub [] (by kernel_rfl) rfl w1 c1⟩
/-- cmp.isNaN -/
def m_cmp_isNaN (_N : Nat) (p0 : Int) : Option (Bool) :=
  some ((decide (p0 ≠ p0)))
set_option maxRecDepth 20000 in
theorem m_cmp_isNaN_ok (N : Nat) (w0 : World) (p0 : Int)   (r : Bool) (hr : m_cmp_isNaN N p0 = some r) :
    Calls Try.prog 50 [.int .i64 p0].toArray w0 fun x w1 => ∃ u, x = .returned ((fun (r : Bool) (_u : Unit) => .bool r) r u) ∧ Hs w0 ((fun (_r : Bool) (_u : Unit) => []) r u) w1 := by
  refine calls_cm (n := 6) (R := fun r x w1 => ∃ u, x = .returned ((fun (r : Bool) (_u : Unit) => .bool r) r u) ∧ Hs w0 ((fun (_r : Bool) (_u : Unit) => []) r u) w1) Try.func50 rfl rfl (Nat.le_of_ble_eq_true rfl) ?_ r hr
  unfold m_cmp_isNaN
  refine cm_seq ?_
  refine cm_region ?_
  refine lm_val 2 (by kernel_rfl) (fun w1 c1 => (op_assign (v := .bool false) rfl)) ?_
  refine lm_nil ?_
  refine xm_next ?_
  refine cm_seq ?_
  refine cm_region ?_
  refine lm_val 3 (by kernel_rfl) (fun w1 c1 => (op_move (v := .int .i64 _) rfl)) ?_
  refine lm_val 4 (by kernel_rfl) (fun w1 c1 => (op_move (v := .int .i64 _) rfl)) ?_
  refine lm_val 5 (by kernel_rfl) (fun w1 c1 => (op_neq rfl rfl)) ?_
  refine lm_val 2 (by kernel_rfl) (fun w1 c1 => (op_assign (v := .bool _) rfl)) ?_
  refine lm_nil ?_
  refine xm_next ?_
  refine cm_ret ?_
  exact xm_retT rfl (by kernel_rfl) (show _ = Value.bool _ from rfl) fun w1 c1 => ⟨(), rfl, hsub [] (by kernel_rfl) rfl w1 c1⟩
/-- cmp.Compare -/
def m_cmp_Compare (N : Nat) (p0 : Int) (p1 : Int) : Option (Int) :=
  Option.bind (m_cmp_isNaN N p0) fun r1 => Option.bind (m_cmp_isNaN N p1) fun r3 => (if r1 = true then
    (if r3 = true then
      some ((0 : Int))
    else
      some ((-1 : Int)))
  else
    (if r3 = true then
      some ((1 : Int))
    else
      (if p0 < p1 then
        some ((-1 : Int))
      else
        (if p1 < p0 then
          some ((1 : Int))
        else
          some ((0 : Int))))))
set_option maxRecDepth 20000 in
theorem m_cmp_Compare_ok (N : Nat) (w0 : World) (p0 : Int) (p1 : Int)   (r : Int) (hr : m_cmp_Compare N p0 p1 = some r) :
    Calls Try.prog 39 [.int .i64 p0, .int .i64 p1].toArray w0 fun x w1 => ∃ u, x = .returned ((fun (r : Int) (_u : Unit) => .int .i64 r) r u) ∧ Hs w0 ((fun (_r : Int) (_u : Unit) => []) r u) w1 := by
  refine calls_cm (n := 20) (R := fun r x w1 => ∃ u, x = .returned ((fun (r : Int) (_u : Unit) => .int .i64 r) r u) ∧ Hs w0 ((fun (_r : Int) (_u : Unit) => []) r u) w1) Try.func39 rfl rfl (Nat.le_of_ble_eq_true rfl) ?_ r hr
  unfold m_cmp_Compare
  refine cm_seq ?_
  refine cm_region ?_
  refine lm_val 4 (by kernel_rfl) (fun w1 c1 => (op_assign (v := .int .i64 _) rfl)) ?_
  refine lm_nil ?_
  refine xm_next ?_
  refine cm_seq ?_
  refine cm_region ?_
  refine lm_val 7 (by kernel_rfl) (fun w1 c1 => (op_move (v := .int .i64 _) rfl)) ?_
  refine lm_call 8 (V := (fun (r : Bool) (_u : Unit) => .bool r)) (HR := (fun (_r : Bool) (_u : Unit) => [])) (by kernel_rfl) (fun w1 => op_call (by kernel_rfl)) (fun r1 hr1 w1 c1 => m_cmp_isNaN_ok N w1 p0  r1 hr1) ?_
  intro r1 u2
  refine lm_val 5 (by kernel_rfl) (fun w1 c1 => (op_assign (v := .bool _) rfl)) ?_
  refine lm_nil ?_
  refine xm_next ?_
  refine cm_seq ?_
  refine cm_region ?_
  refine lm_val 9 (by kernel_rfl) (fun w1 c1 => (op_move (v := .int .i64 _) rfl)) ?_
  refine lm_call 10 (V := (fun (r : Bool) (_u : Unit) => .bool r)) (HR := (fun (_r : Bool) (_u : Unit) => [])) (by kernel_rfl) (fun w1 => op_call (by kernel_rfl)) (fun r1 hr1 w1 c1 => m_cmp_isNaN_ok N w1 p1  r1 hr1) ?_
  intro r3 u4
  refine lm_val 6 (by kernel_rfl) (fun w1 c1 => (op_assign (v := .bool _) rfl)) ?_
  refine lm_nil ?_
  refine xm_next ?_
  refine cm_seq ?_
  refine cm_seq ?_
  refine cm_region ?_
  refine lm_val 11 (by kernel_rfl) (fun w1 c1 => (op_move (v := .bool _) rfl)) ?_
  refine lm_nil ?_
  refine xm_next ?_
  refine cm_condB (by kernel_rfl) rfl (fun h5 => ?_) (fun h5 => ?_)
  · skip
    refine cm_seq ?_
    refine cm_seq ?_
    refine cm_region ?_
    refine lm_val 12 (by kernel_rfl) (fun w1 c1 => (op_move (v := .bool _) rfl)) ?_
    refine lm_nil ?_
    refine xm_next ?_
    refine cm_condB (by kernel_rfl) rfl (fun h6 => ?_) (fun h6 => ?_)
    · skip
      refine cm_seq ?_
      refine cm_region ?_
      refine lm_val 4 (by kernel_rfl) (fun w1 c1 => (op_assign (v := .int .i64 _) rfl)) ?_
      refine lm_nil ?_
      refine xm_next ?_
      refine cm_ret ?_
      refine xm_thenR ?_
      refine xm_thenR ?_
      exact xm_retT rfl (by kernel_rfl) (show _ = Value.int .i64 _ from rfl) fun w1 c1 => ⟨(), rfl, hsub [] (by kernel_rfl) rfl w1 c1⟩
    · skip
      refine cm_skip ?_
      refine xm_next ?_
      refine cm_seq ?_
      refine cm_region ?_
      refine lm_val 4 (by kernel_rfl) (fun w1 c1 => (op_assign (v := .int .i64 _) rfl)) ?_
      refine lm_nil ?_
      refine xm_next ?_
      refine cm_ret ?_
      refine xm_thenR ?_
      exact xm_retT rfl (by kernel_rfl) (show _ = Value.int .i64 _ from rfl) fun w1 c1 => ⟨(), rfl, hsub [] (by kernel_rfl) rfl w1 c1⟩
  · skip
    refine cm_skip ?_
    refine xm_next ?_
    refine cm_seq ?_
    refine cm_seq ?_
    refine cm_region ?_
    refine lm_val 13 (by kernel_rfl) (fun w1 c1 => (op_move (v := .bool _) rfl)) ?_
    refine lm_nil ?_
    refine xm_next ?_
    refine cm_condB (by kernel_rfl) rfl (fun h7 => ?_) (fun h7 => ?_)
    · skip
      refine cm_seq ?_
      refine cm_region ?_
      refine lm_val 4 (by kernel_rfl) (fun w1 c1 => (op_assign (v := .int .i64 _) rfl)) ?_
      refine lm_nil ?_
      refine xm_next ?_
      refine cm_ret ?_
      refine xm_thenR ?_
      exact xm_retT rfl (by kernel_rfl) (show _ = Value.int .i64 _ from rfl) fun w1 c1 => ⟨(), rfl, hsub [] (by kernel_rfl) rfl w1 c1⟩
    · skip
      refine cm_skip ?_
      refine xm_next ?_
      refine cm_seq ?_
      refine cm_seq ?_
      refine cm_region ?_
      refine lm_val 14 (by kernel_rfl) (fun w1 c1 => (op_move (v := .int .i64 _) rfl)) ?_
      refine lm_val 15 (by kernel_rfl) (fun w1 c1 => (op_move (v := .int .i64 _) rfl)) ?_
      refine lm_val 16 (by kernel_rfl) (fun w1 c1 => (op_lss rfl rfl)) ?_
      refine lm_nil ?_
      refine xm_next ?_
      refine cm_cond (by kernel_rfl) rfl (fun h8 => ?_) (fun h8 => ?_)
      · skip
        refine cm_seq ?_
        refine cm_region ?_
        refine lm_val 4 (by kernel_rfl) (fun w1 c1 => (op_assign (v := .int .i64 _) rfl)) ?_
        refine lm_nil ?_
        refine xm_next ?_
        refine cm_ret ?_
        refine xm_thenR ?_
        exact xm_retT rfl (by kernel_rfl) (show _ = Value.int .i64 _ from rfl) fun w1 c1 => ⟨(), rfl, hsub [] (by kernel_rfl) rfl w1 c1⟩
      · skip
        refine cm_skip ?_
        refine xm_next ?_
        refine cm_seq ?_
        refine cm_seq ?_
        refine cm_region ?_
        refine lm_val 17 (by kernel_rfl) (fun w1 c1 => (op_move (v := .int .i64 _) rfl)) ?_
        refine lm_val 18 (by kernel_rfl) (fun w1 c1 => (op_move (v := .int .i64 _) rfl)) ?_
        refine lm_val 19 (by kernel_rfl) (fun w1 c1 => (op_gtr rfl rfl)) ?_
        refine lm_nil ?_
        refine xm_next ?_
        refine cm_cond (by kernel_rfl) rfl (fun h9 => ?_) (fun h9 => ?_)
        · skip
          refine cm_seq ?_
          refine cm_region ?_
          refine lm_val 4 (by kernel_rfl) (fun w1 c1 => (op_assign (v := .int .i64 _) rfl)) ?_
          refine lm_nil ?_
          refine xm_next ?_
          refine cm_ret ?_
          refine xm_thenR ?_
          exact xm_retT rfl (by kernel_rfl) (show _ = Value.int .i64 _ from rfl) fun w1 c1 => ⟨(), rfl, hsub [] (by kernel_rfl) rfl w1 c1⟩
        · skip
          refine cm_skip ?_
          refine xm_next ?_
          refine cm_seq ?_
          refine cm_region ?_
          refine lm_val 4 (by kernel_rfl) (fun w1 c1 => (op_assign (v := .int .i64 _) rfl)) ?_
          refine lm_nil ?_
          refine xm_next ?_
          refine cm_ret ?_
          exact xm_retT rfl (by kernel_rfl) (show _ = Value.int .i64 _ from rfl) fun w1 c1 => ⟨(), rfl, hsub [] (by kernel_rfl) rfl w1 c1⟩
/-- cmp.Or -/
def m_cmp_Or (N : Nat) (p0 : (List Int)) : Option (Int) :=
  (andThen
    (loopM (fun (s33 : Int) =>
      (if s33 < (List.length p0 : Int) then
        ck ((0 : Int) ≤ s33 ∧ s33 < (List.length p0 : Int)) (
          (if (ix p0 s33) ≠ 0 then
            some (.done (.done ((ix p0 s33))))
          else
            ck (I64 (s33 + (1 : Int))) (
              some (.next (s33 + (1 : Int))))))
      else
        some (.done (.next ())))) N (0 : Int))
  fun (_s19 : Unit) =>
    some ((0 : Int)))
set_option maxRecDepth 20000 in
theorem m_cmp_Or_ok (N : Nat) (w0 : World) (p0 : (List Int)) (A_p0 : Option Addr) (n_p0 c_p0 : Nat) (hr_p0 : RdE w0 1 encI A_p0 p0) (hz_p0 : SW A_p0 n_p0 c_p0 (List.length p0)) (r : Int) (hr : m_cmp_Or N p0 = some r) :
    Calls Try.prog 38 [.slice A_p0 n_p0 c_p0].toArray w0 fun x w1 => ∃ u, x = .returned ((fun (r : Int) (_u : Unit) => .int .i64 r) r u) ∧ Hs w0 ((fun (_r : Int) (_u : Unit) => []) r u) w1 := by
  refine calls_cm (n := 18) (R := fun r x w1 => ∃ u, x = .returned ((fun (r : Int) (_u : Unit) => .int .i64 r) r u) ∧ Hs w0 ((fun (_r : Int) (_u : Unit) => []) r u) w1) Try.func38 rfl rfl (Nat.le_of_ble_eq_true rfl) ?_ r hr
  unfold m_cmp_Or
  refine cm_seq ?_
  refine cm_region ?_
  refine lm_val 2 (by kernel_rfl) (fun w1 c1 => (op_assign (v := .int .i64 _) rfl)) ?_
  refine lm_nil ?_
  refine xm_next ?_
  refine cm_seq ?_
  refine cm_region ?_
  refine lm_val 3 (by kernel_rfl) (fun w1 c1 => (op_assign (v := .int .i64 _) rfl)) ?_
  refine lm_nil ?_
  refine xm_next ?_
  refine cm_join (σ := Unit) (ξ := Unit) (fun s19 u20 => [(3, .int .i64 0)]) (fun s19 u20 => []) ?_ ?_
  · skip
    refine cm_seq ?_
    refine cm_region ?_
    refine lm_val 6 (by kernel_rfl) (fun w1 c1 => (op_move (v := .slice _ _ _) rfl)) ?_
    refine lm_val 7 (by kernel_rfl) (fun w1 c1 => (op_lenN rfl (by kernel_rfl) hz_p0.2.2)) ?_
    refine lm_val 8 (by kernel_rfl) (fun w1 c1 => (op_move (v := .int .i64 _) rfl)) ?_
    refine lm_nil ?_
    refine xm_next ?_
    refine cm_block ?_
    refine cm_loop (σ := Int) (ξ := Unit) (fun s33 u34 => [(3, .int .i64 0), (6, .slice A_p0 n_p0 c_p0), (7, .int .i64 (List.length p0 : Int)), (8, .int .i64 s33)]) (fun s33 u34 => []) () ?_ ?_ ?_
    · exact (sub_cons (by kernel_rfl) rfl (sub_cons (by kernel_rfl) rfl (sub_cons (by kernel_rfl) rfl (sub_cons (by kernel_rfl) rfl sub_nil))))
    · exact hsub [] (by kernel_rfl) rfl
    intro s33 u34
    refine cm_seq ?_
    refine cm_region ?_
    refine lm_val 9 (by kernel_rfl) (fun w1 c1 => (op_lss rfl rfl)) ?_
    refine lm_nil ?_
    refine xm_next ?_
    refine cm_seq ?_
    refine cm_cond (by kernel_rfl) rfl (fun h35 => ?_) (fun h35 => ?_)
    · skip
      refine cm_skip ?_
      refine xm_next ?_
      refine cm_seq ?_
      refine cm_block ?_
      refine cm_seq ?_
      refine cm_region ?_
      refine lm_ck (fun h36 => ?_)
      refine lm_val 10 (by kernel_rfl) (fun w1 c1 => (op_indexA 1 rfl rfl (by kernel_rfl) ((hr_p0.old c1).addr h36.1 h36.2) hz_p0.2.2 h36.1 h36.2)) ?_
      refine lm_val 11 (by kernel_rfl) (fun w1 c1 => (op_load (v := .int .i64 (ix p0 s33)) rfl (by kernel_rfl) ((hr_p0.old c1).cell0 h36.1 h36.2 rfl))) ?_
      refine lm_val 5 (by kernel_rfl) (fun w1 c1 => (op_assign (v := .int .i64 _) rfl)) ?_
      refine lm_nil ?_
      refine xm_next ?_
      refine cm_seq ?_
      refine cm_region ?_
      refine lm_val 12 (by kernel_rfl) (fun w1 c1 => (op_move (v := .int .i64 _) rfl)) ?_
      refine lm_val 13 (by kernel_rfl) (fun w1 c1 => (op_move (v := .int .i64 _) rfl)) ?_
      refine lm_val 14 (by kernel_rfl) (fun w1 c1 => (op_neq rfl rfl)) ?_
      refine lm_nil ?_
      refine xm_next ?_
      refine cm_cond (by kernel_rfl) rfl (fun h37 => ?_) (fun h37 => ?_)
      · skip
        refine cm_seq ?_
        refine cm_region ?_
        refine lm_val 15 (by kernel_rfl) (fun w1 c1 => (op_move (v := .int .i64 _) rfl)) ?_
        refine lm_val 2 (by kernel_rfl) (fun w1 c1 => (op_assign (v := .int .i64 _) rfl)) ?_
        refine lm_nil ?_
        refine xm_next ?_
        refine cm_ret ?_
        refine xm_inR ?_
        refine xm_thenR ?_
        refine xm_lret ?_
        refine xm_inR ?_
        refine xm_lret ?_
        exact xm_retT rfl (by kernel_rfl) (show _ = Value.int .i64 _ from rfl) fun w1 c1 => ⟨(), rfl, hsub [] (by kernel_rfl) rfl w1 c1⟩
      · skip
        refine cm_skip ?_
        refine xm_inN ?_
        refine xm_next ?_
        refine cm_region ?_
        refine lm_ck (fun h38 => ?_)
        refine lm_val 16 (by kernel_rfl) (fun w1 c1 => (op_add rfl rfl h38)) ?_
        refine lm_val 8 (by kernel_rfl) (fun w1 c1 => (op_move (v := .int .i64 _) rfl)) ?_
        refine lm_nil ?_
        exact xm_lnext () (sub_cons (by kernel_rfl) rfl (sub_cons (by kernel_rfl) rfl (sub_cons (by kernel_rfl) rfl (sub_cons (by kernel_rfl) rfl sub_nil)))) (hsub [] (by kernel_rfl) rfl)
    · skip
      refine cm_exit ?_
      refine xm_thenE ?_
      refine xm_lexit ?_
      refine xm_here ?_
      exact xm_lnext () (sub_cons (by kernel_rfl) rfl sub_nil) (hsub [] (by kernel_rfl) rfl)
  intro s19 u20
  refine cm_seq ?_
  refine cm_region ?_
  refine lm_val 17 (by kernel_rfl) (fun w1 c1 => (op_move (v := .int .i64 _) rfl)) ?_
  refine lm_val 2 (by kernel_rfl) (fun w1 c1 => (op_assign (v := .int .i64 _) rfl)) ?_
  refine lm_nil ?_
  refine xm_next ?_
  refine cm_ret ?_
  exact xm_retT rfl (by kernel_rfl) (show _ = Value.int .i64 _ from rfl) fun w1 c1 => ⟨(), rfl, hsub [] (by kernel_rfl) rfl w1 c1⟩
/-- emptying.sorted$1 -/
def m_emptying_sorted_1 (N : Nat) (p0 : Int) (p1 : Int) (q0 : (List ApiEmptying)) : Option (Int) :=
  ck ((0 : Int) ≤ p0 ∧ p0 < (List.length q0 : Int)) (
    ck ((0 : Int) ≤ p1 ∧ p1 < (List.length q0 : Int)) (
      Option.bind (m_cmp_Compare N ((ix q0 p0).At) ((ix q0 p1).At)) fun r3 => ck ((0 : Int) ≤ p0 ∧ p0 < (List.length q0 : Int)) (
        ck ((0 : Int) ≤ p1 ∧ p1 < (List.length q0 : Int)) (
          Option.bind (m_cmp_Compare N ((ix q0 p0).ID) ((ix q0 p1).ID)) fun r7 => Option.bind (m_cmp_Or N ([r3, r7])) fun r15 => some (r15)))))
set_option maxRecDepth 20000 in
theorem m_emptying_sorted_1_ok (N : Nat) (w0 : World) (p0 : Int) (p1 : Int) (q0 : (List ApiEmptying)) (b_q0 : Nat) (A_q01 : Option Addr) (n_q01 c_q01 : Nat) (hb_q0 : Blk w0 b_q0 22 [.slice A_q01 n_q01 c_q01]) (hr_q01 : RdE w0 7 encApiEmptying A_q01 q0) (hz_q01 : SW A_q01 n_q01 c_q01 (List.length q0)) (r : Int) (hr : m_emptying_sorted_1 N p0 p1 q0 = some r) :
    Calls Try.prog 37 [.int .i64 p0, .int .i64 p1, .pointer (some ⟨b_q0, 0, none⟩)].toArray w0 fun x w1 => ∃ u, x = .returned ((fun (r : Int) (_u : Unit) => .int .i64 r) r u) ∧ Hs w0 ((fun (_r : Int) (_u : Unit) => []) r u) w1 := by
  refine calls_cm (n := 30) (R := fun r x w1 => ∃ u, x = .returned ((fun (r : Int) (_u : Unit) => .int .i64 r) r u) ∧ Hs w0 ((fun (_r : Int) (_u : Unit) => []) r u) w1) Try.func37 rfl rfl (Nat.le_of_ble_eq_true rfl) ?_ r hr
  unfold m_emptying_sorted_1
  refine cm_seq ?_
  refine cm_region ?_
  refine lm_val 5 (by kernel_rfl) (fun w1 c1 => (op_assign (v := .int .i64 _) rfl)) ?_
  refine lm_nil ?_
  refine xm_next ?_
  refine cm_seq ?_
  refine cm_ck (fun h1 => ?_)
  refine cm_ck (fun h2 => ?_)
  refine cm_bind fun r3 h4 => ?_
  refine cm_ck (fun h5 => ?_)
  refine cm_ck (fun h6 => ?_)
  refine cm_bind fun r7 h8 => ?_
  refine cm_bind fun r15 h16 => ?_
  refine cm_held (ξ := Unit) (fun u32 => [(5, .int .i64 r15)]) (fun u32 => []) [] 25 (by kernel_rfl) (by rfl) (hsub [] (by kernel_rfl) (by rfl)) ?_ ?_
  · intro w34 c35
    refine wh_take 0 6 rfl (by kernel_rfl) (by kernel_rfl) (fun w2 c2 => (op_load rfl (by kernel_rfl) (c2.ocell (hb_q0.at_ 0 (u := .slice _ _ _) rfl)))) (hsub [] (by kernel_rfl) rfl _ c35) ?_
    refine wh_take 1 7 rfl (by kernel_rfl) (by kernel_rfl) (fun w2 c2 => (op_move (v := .int .i64 _) rfl)) (hsub [] (by kernel_rfl) rfl _ c35) ?_
    refine wh_take 2 8 rfl (by kernel_rfl) (by kernel_rfl) (fun w2 c2 => (op_indexA 7 rfl rfl (by kernel_rfl) ((hr_q01.old c2).addr h1.1 h1.2) hz_q01.2.2 h1.1 h1.2)) (hsub [] (by kernel_rfl) rfl _ c35) ?_
    refine wh_take 3 9 rfl (by kernel_rfl) (by kernel_rfl) (fun w2 c2 => (op_field (m := 3) rfl (by kernel_rfl))) (hsub [] (by kernel_rfl) rfl _ c35) ?_
    refine wh_take 4 10 rfl (by kernel_rfl) (by kernel_rfl) (fun w2 c2 => (op_load (v := .int .i64 ((ix q0 p0).At)) rfl (by kernel_rfl) ((hr_q01.old c2).cell (j := 3) h1.1 h1.2 rfl))) (hsub [] (by kernel_rfl) rfl _ c35) ?_
    refine wh_take 5 11 rfl (by kernel_rfl) (by kernel_rfl) (fun w2 c2 => (op_load rfl (by kernel_rfl) (c2.ocell (hb_q0.at_ 0 (u := .slice _ _ _) rfl)))) (hsub [] (by kernel_rfl) rfl _ c35) ?_
    refine wh_take 6 12 rfl (by kernel_rfl) (by kernel_rfl) (fun w2 c2 => (op_move (v := .int .i64 _) rfl)) (hsub [] (by kernel_rfl) rfl _ c35) ?_
    refine wh_take 7 13 rfl (by kernel_rfl) (by kernel_rfl) (fun w2 c2 => (op_indexA 7 rfl rfl (by kernel_rfl) ((hr_q01.old c2).addr h2.1 h2.2) hz_q01.2.2 h2.1 h2.2)) (hsub [] (by kernel_rfl) rfl _ c35) ?_
    refine wh_take 8 14 rfl (by kernel_rfl) (by kernel_rfl) (fun w2 c2 => (op_field (m := 3) rfl (by kernel_rfl))) (hsub [] (by kernel_rfl) rfl _ c35) ?_
    refine wh_take 9 15 rfl (by kernel_rfl) (by kernel_rfl) (fun w2 c2 => (op_load (v := .int .i64 ((ix q0 p1).At)) rfl (by kernel_rfl) ((hr_q01.old c2).cell (j := 3) h2.1 h2.2 rfl))) (hsub [] (by kernel_rfl) rfl _ c35) ?_
    refine wh_take 11 17 rfl (by kernel_rfl) (by kernel_rfl) (fun w2 c2 => (op_load rfl (by kernel_rfl) (c2.ocell (hb_q0.at_ 0 (u := .slice _ _ _) rfl)))) (hsub [] (by kernel_rfl) rfl _ c35) ?_
    refine wh_take 12 18 rfl (by kernel_rfl) (by kernel_rfl) (fun w2 c2 => (op_move (v := .int .i64 _) rfl)) (hsub [] (by kernel_rfl) rfl _ c35) ?_
    refine wh_take 13 19 rfl (by kernel_rfl) (by kernel_rfl) (fun w2 c2 => (op_indexA 7 rfl rfl (by kernel_rfl) ((hr_q01.old c2).addr h5.1 h5.2) hz_q01.2.2 h5.1 h5.2)) (hsub [] (by kernel_rfl) rfl _ c35) ?_
    refine wh_take 14 20 rfl (by kernel_rfl) (by kernel_rfl) (fun w2 c2 => (op_field0 rfl (by kernel_rfl))) (hsub [] (by kernel_rfl) rfl _ c35) ?_
    refine wh_take 15 21 rfl (by kernel_rfl) (by kernel_rfl) (fun w2 c2 => (op_load (v := .int .i64 ((ix q0 p0).ID)) rfl (by kernel_rfl) ((hr_q01.old c2).cell0 h5.1 h5.2 rfl))) (hsub [] (by kernel_rfl) rfl _ c35) ?_
    refine wh_take 16 22 rfl (by kernel_rfl) (by kernel_rfl) (fun w2 c2 => (op_load rfl (by kernel_rfl) (c2.ocell (hb_q0.at_ 0 (u := .slice _ _ _) rfl)))) (hsub [] (by kernel_rfl) rfl _ c35) ?_
    refine wh_take 17 23 rfl (by kernel_rfl) (by kernel_rfl) (fun w2 c2 => (op_move (v := .int .i64 _) rfl)) (hsub [] (by kernel_rfl) rfl _ c35) ?_
    refine wh_take 18 24 rfl (by kernel_rfl) (by kernel_rfl) (fun w2 c2 => (op_indexA 7 rfl rfl (by kernel_rfl) ((hr_q01.old c2).addr h6.1 h6.2) hz_q01.2.2 h6.1 h6.2)) (hsub [] (by kernel_rfl) rfl _ c35) ?_
    refine wh_take 19 25 rfl (by kernel_rfl) (by kernel_rfl) (fun w2 c2 => (op_field0 rfl (by kernel_rfl))) (hsub [] (by kernel_rfl) rfl _ c35) ?_
    refine wh_take 20 26 rfl (by kernel_rfl) (by kernel_rfl) (fun w2 c2 => (op_load (v := .int .i64 ((ix q0 p1).ID)) rfl (by kernel_rfl) ((hr_q01.old c2).cell0 h6.1 h6.2 rfl))) (hsub [] (by kernel_rfl) rfl _ c35) ?_
    refine wh_ready [10] (by kernel_rfl) rfl ⟨?_, trivial⟩
    refine ws_call 16 rfl (by kernel_rfl) (op_call (by kernel_rfl)) (m_cmp_Compare_ok N _ ((ix q0 p0).At) ((ix q0 p1).At)  r3 h4) ?_
    rintro x w37 ⟨u36, rfl, c38⟩
    replace c38 := c35.call c38
    refine ⟨_, rfl, (hsub [] (by kernel_rfl) rfl _ c38), ?_⟩
    refine wh_ready [21] (by kernel_rfl) rfl ⟨?_, trivial⟩
    refine ws_call 27 rfl (by kernel_rfl) (op_call (by kernel_rfl)) (m_cmp_Compare_ok N _ ((ix q0 p0).ID) ((ix q0 p1).ID)  r7 h8) ?_
    rintro x w40 ⟨u39, rfl, c41⟩
    replace c41 := c38.call c41
    refine ⟨_, rfl, (hsub [] (by kernel_rfl) rfl _ c41), ?_⟩
    refine wh_ready [22] (by kernel_rfl) rfl ⟨?_, trivial⟩
    refine ws_sliceN 28 (el := 3) (sz := 1) (bytes := 8) (enc := encI) [r3, r7] rfl (by kernel_rfl) (by kernel_rfl) encI_len rfl ⟨rfl, rfl, ⟨rfl, rfl, trivial⟩⟩ (by kernel_rfl) (by kernel_rfl) c41 ?_
    intro A42 n43 k44 w45 c46
    refine ⟨(hsub [] (by kernel_rfl) rfl _ c46), ?_⟩
    refine wh_strong (Hs w0 [ownE 3 1 encI A42 n43 k44 ([r3, r7])]) (fun w2 c2 => hsub [] (by kernel_rfl) rfl w2 c2) ?_
    refine wh_ready [23] (by kernel_rfl) rfl ⟨?_, trivial⟩
    refine ws_call 29 rfl (by kernel_rfl) (op_call (by kernel_rfl)) (m_cmp_Or_ok N _ ([r3, r7]) A42 n43 k44 (c46.own 0 rfl encI_len) (c46.ownZ 0 rfl) r15 h16) ?_
    rintro x w49 ⟨u48, rfl, c50⟩
    replace c50 := c46.call c50
    refine ⟨_, rfl, (hsub [0] (by kernel_rfl) rfl _ c50), ?_⟩
    refine wh_take 24 5 rfl (by kernel_rfl) (by kernel_rfl) (fun w2 c2 => (op_assign (v := .int .i64 _) rfl)) (hsub [0] (by kernel_rfl) rfl _ c50) ?_
    exact wh_done () (by kernel_rfl) (sub_cons (by kernel_rfl) rfl sub_nil) (hsub [] (by kernel_rfl) rfl _ c50)
  intro u32
  refine xm_next ?_
  refine cm_ret ?_
  exact xm_retT rfl (by kernel_rfl) (show _ = Value.int .i64 _ from rfl) fun w1 c1 => ⟨(), rfl, hsub [] (by kernel_rfl) rfl w1 c1⟩
/-- emptying.sorted -/
def m_emptying_sorted (N : Nat) (p0 : (List ApiEmptying)) : Option ((List Int)) :=
  ck ((0 : Int) ≤ (List.length p0 : Int) ∧ Int.toNat (List.length p0 : Int) * 8 ≤ 140737488355328) (
    (andThen
      (loopM (fun (s34 : (List Int) × Int) =>
        (if s34.2 < (List.length (List.replicate (Int.toNat (List.length p0 : Int)) (0 : Int)) : Int) then
          ck ((0 : Int) ≤ s34.2 ∧ s34.2 < (List.length s34.1 : Int)) (
            ck (I64 (s34.2 + (1 : Int))) (
              some (.next ((List.set s34.1 (Int.toNat s34.2) s34.2), (s34.2 + (1 : Int))))))
        else
          some (.done (.next s34.1)))) N ((List.replicate (Int.toNat (List.length p0 : Int)) (0 : Int)), (0 : Int)))
    fun (s22 : (List Int)) =>
      ck (sortOk (fun x y => m_emptying_sorted_1 N x y p0) s22 ∧ List.length s22 < 4611686018427387904) (
        some ((sortO (fun x y => m_emptying_sorted_1 N x y p0) s22)))))
set_option maxRecDepth 20000 in
theorem m_emptying_sorted_ok (N : Nat) (w0 : World) (p0 : (List ApiEmptying)) (A_p0 : Option Addr) (n_p0 c_p0 : Nat) (hr_p0 : RdE w0 7 encApiEmptying A_p0 p0) (hz_p0 : SW A_p0 n_p0 c_p0 (List.length p0)) (r : (List Int)) (hr : m_emptying_sorted N p0 = some r) :
    Calls Try.prog 26 [.slice A_p0 n_p0 c_p0].toArray w0 fun x w1 => ∃ u, x = .returned ((fun (_r : (List Int)) (u : (Option Addr) × Nat × Nat) => .slice u.1 u.2.1 u.2.2) r u) ∧ Hs w0 ((fun (r : (List Int)) (u : (Option Addr) × Nat × Nat) => [ownE 3 1 encI u.1 u.2.1 u.2.2 r]) r u) w1 := by
  refine calls_cm (n := 22) (R := fun r x w1 => ∃ u, x = .returned ((fun (_r : (List Int)) (u : (Option Addr) × Nat × Nat) => .slice u.1 u.2.1 u.2.2) r u) ∧ Hs w0 ((fun (r : (List Int)) (u : (Option Addr) × Nat × Nat) => [ownE 3 1 encI u.1 u.2.1 u.2.2 r]) r u) w1) Try.func26 rfl rfl (Nat.le_of_ble_eq_true rfl) ?_ r hr
  unfold m_emptying_sorted
  refine cm_seq ?_
  refine cm_region ?_
  refine lm_box 1 [.slice _ _ _] (by kernel_rfl) rfl ?_
  intro b1
  refine lm_val 2 (by kernel_rfl) (fun w1 c1 => (op_assign (v := .slice _ _ _) rfl)) ?_
  refine lm_nil ?_
  refine xm_next ?_
  refine cm_seq ?_
  refine cm_region ?_
  refine lm_val 5 (by kernel_rfl) (fun w1 c1 => (op_load rfl (by kernel_rfl) (c1.cell 0 (u := .slice _ _ _) rfl rfl))) ?_
  refine lm_val 6 (by kernel_rfl) (fun w1 c1 => (op_lenN rfl (by kernel_rfl) hz_p0.2.2)) ?_
  refine lm_ck (fun h2 => ?_)
  refine lm_make 7 (el := 3) (sz := 1) (bytes := 8) (enc := encI) (0 : Int) (zv := .int .i64 0) (by kernel_rfl) (by kernel_rfl) (by kernel_rfl) rfl encI_len rfl rfl h2.1 h2.2 (by kernel_rfl) ?_
  intro A3 n4 k5 h6
  refine lm_val 3 (by kernel_rfl) (fun w1 c1 => (op_assign (v := .slice _ _ _) rfl)) ?_
  refine lm_nil ?_
  refine xm_next ?_
  refine cm_join (σ := (List Int)) (ξ := Unit) (fun s22 u23 => [(1, .pointer (some ⟨b1, 0, none⟩)), (3, .slice A3 n4 k5)]) (fun s22 u23 => [blkE b1 22 [.slice A_p0 n_p0 c_p0], ownE 3 1 encI A3 n4 k5 s22]) ?_ ?_
  · skip
    refine cm_seq ?_
    refine cm_region ?_
    refine lm_val 8 (by kernel_rfl) (fun w1 c1 => (op_move (v := .slice _ _ _) rfl)) ?_
    refine lm_val 9 (by kernel_rfl) (fun w1 c1 => (op_lenN rfl (by kernel_rfl) (c1.ownZ 0 rfl).2.2)) ?_
    refine lm_val 10 (by kernel_rfl) (fun w1 c1 => (op_move (v := .int .i64 _) rfl)) ?_
    refine lm_nil ?_
    refine xm_next ?_
    refine cm_block ?_
    refine cm_loop (σ := (List Int) × Int) (ξ := Unit) (fun s34 u35 => [(1, .pointer (some ⟨b1, 0, none⟩)), (3, .slice A3 n4 k5), (9, .int .i64 (List.length (List.replicate (Int.toNat (List.length p0 : Int)) (0 : Int)) : Int)), (10, .int .i64 s34.2)]) (fun s34 u35 => [blkE b1 22 [.slice A_p0 n_p0 c_p0], ownE 3 1 encI A3 n4 k5 s34.1]) () ?_ ?_ ?_
    · exact (sub_cons (by kernel_rfl) rfl (sub_cons (by kernel_rfl) rfl (sub_cons (by kernel_rfl) rfl (sub_cons (by kernel_rfl) rfl sub_nil))))
    · exact hsub [1, 0] (by kernel_rfl) rfl
    intro s34 u35
    refine cm_seq ?_
    refine cm_region ?_
    refine lm_val 11 (by kernel_rfl) (fun w1 c1 => (op_lss rfl rfl)) ?_
    refine lm_nil ?_
    refine xm_next ?_
    refine cm_seq ?_
    refine cm_cond (by kernel_rfl) rfl (fun h36 => ?_) (fun h36 => ?_)
    · skip
      refine cm_skip ?_
      refine xm_next ?_
      refine cm_seq ?_
      refine cm_block ?_
      refine cm_seq ?_
      refine cm_region ?_
      refine lm_val 12 (by kernel_rfl) (fun w1 c1 => (op_move (v := .int .i64 _) rfl)) ?_
      refine lm_val 4 (by kernel_rfl) (fun w1 c1 => (op_assign (v := .int .i64 _) rfl)) ?_
      refine lm_nil ?_
      refine xm_next ?_
      refine cm_region ?_
      refine lm_val 13 (by kernel_rfl) (fun w1 c1 => (op_move (v := .slice _ _ _) rfl)) ?_
      refine lm_val 14 (by kernel_rfl) (fun w1 c1 => (op_move (v := .int .i64 _) rfl)) ?_
      refine lm_val 15 (by kernel_rfl) (fun w1 c1 => (op_move (v := .int .i64 _) rfl)) ?_
      refine lm_ck (fun h37 => ?_)
      refine lm_val 16 (by kernel_rfl) (fun w1 c1 => (op_indexA 1 rfl rfl (by kernel_rfl) ((c1.own 1 rfl encI_len).addr h37.1 h37.2) (c1.ownZ 1 rfl).2.2 h37.1 h37.2)) ?_
      refine lm_storeIx 1 s34.2 0 [.int .i64 _] (by kernel_rfl) rfl rfl (by kernel_rfl) rfl rfl rfl encI_len encI_one h37.1 h37.2 (by kernel_rfl) rfl ?_
      refine lm_nil ?_
      refine xm_inN ?_
      refine xm_next ?_
      refine cm_region ?_
      refine lm_ck (fun h38 => ?_)
      refine lm_val 17 (by kernel_rfl) (fun w1 c1 => (op_add rfl rfl h38)) ?_
      refine lm_val 10 (by kernel_rfl) (fun w1 c1 => (op_move (v := .int .i64 _) rfl)) ?_
      refine lm_nil ?_
      exact xm_lnext () (sub_cons (by kernel_rfl) rfl (sub_cons (by kernel_rfl) rfl (sub_cons (by kernel_rfl) rfl (sub_cons (by kernel_rfl) rfl sub_nil)))) (hsub [0, 1] (by kernel_rfl) rfl)
    · skip
      refine cm_exit ?_
      refine xm_thenE ?_
      refine xm_lexit ?_
      refine xm_here ?_
      exact xm_lnext () (sub_cons (by kernel_rfl) rfl (sub_cons (by kernel_rfl) rfl sub_nil)) (hsub [0, 1] (by kernel_rfl) rfl)
  intro s22 u23
  refine cm_seq ?_
  refine cm_region ?_
  refine lm_val 18 (by kernel_rfl) (fun w1 c1 => (op_move (v := .slice _ _ _) rfl)) ?_
  refine lm_val 19 (by kernel_rfl) (fun w1 c1 => (op_makeFuncC [.pointer (some ⟨_, _, _⟩)] rfl)) ?_
  refine lm_ck (fun h39 => ?_)
  refine lm_callS 20 (by kernel_rfl) (fun w1 => op_call (by kernel_rfl)) (fun w1 c1 => sort1_own Try.sortInt encI (Value.int .i64) (fun _ => rfl) (fun _ => rfl) (fun x y => m_emptying_sorted_1 N x y p0) 37 3 [.pointer (some ⟨b1, 0, none⟩)] (enters_of Try.func37 (by kernel_rfl) rfl) 1 rfl h39.1 h39.2 c1 (fun s1 w2 c1 x y r hr => (m_emptying_sorted_1_ok N w2 x y p0 b1 A_p0 n_p0 c_p0 (c1.blk 0 rfl) (hr_p0.old c1) hz_p0 r hr).mono fun e w3 ⟨_, he, hw⟩ => ⟨he, hw⟩)) ?_
  refine lm_nil ?_
  refine xm_next ?_
  refine cm_seq ?_
  refine cm_region ?_
  refine lm_val 21 (by kernel_rfl) (fun w1 c1 => (op_move (v := .slice _ _ _) rfl)) ?_
  refine lm_val 2 (by kernel_rfl) (fun w1 c1 => (op_assign (v := .slice _ _ _) rfl)) ?_
  refine lm_nil ?_
  refine xm_next ?_
  refine cm_ret ?_
  exact xm_retT rfl (by kernel_rfl) (show _ = Value.slice _ _ _ from rfl) fun w1 c1 => ⟨(A3, n4, k5), rfl, hsub [1] (by kernel_rfl) rfl w1 c1⟩
/-- emptying.Counts -/
def m_emptying_Counts (N : Nat) (p0 : (List ApiEmptying)) (p1 : Int) : Option ((List Int) × Int) :=
  Option.bind (m_emptying_Check N p0 (256 : Int) (16 : Int)) fun r1 => (if r1 ≠ 0 then
    some ((([] : List Int), r1))
  else
    Option.bind (m_emptying_within N p1 (0 : Int) (86400 : Int)) fun r4 => (if (!r4) = true then
      some ((([] : List Int), (1 : Int)))
    else
      (andThen
        (Option.bind (m_emptying_sorted N p0) fun r132 => (loopM (fun (s214 : (List (Int × Int)) × (List Int) × Int) =>
          (if s214.2.2 < (List.length r132 : Int) then
            (andThen
              (ck ((0 : Int) ≤ s214.2.2 ∧ s214.2.2 < (List.length r132 : Int)) (
                ck ((0 : Int) ≤ (ix r132 s214.2.2) ∧ (ix r132 s214.2.2) < (List.length p0 : Int)) (
                  ck (I64 ((ix p0 (ix r132 s214.2.2)).Container)) (
                    ck (((!((ix p0 (ix r132 s214.2.2)).Void)) && (Option.isSome (mget s214.1 ((ix p0 (ix r132 s214.2.2)).Container)))) = true → I64 (((ix p0 (ix r132 s214.2.2)).At) - (Option.getD (mget s214.1 ((ix p0 (ix r132 s214.2.2)).Container)) (0 : Int)))) (
                      (if (((ix p0 (ix r132 s214.2.2)).Void) || ((Option.isSome (mget s214.1 ((ix p0 (ix r132 s214.2.2)).Container))) && (decide ((((ix p0 (ix r132 s214.2.2)).At) - (Option.getD (mget s214.1 ((ix p0 (ix r132 s214.2.2)).Container)) (0 : Int))) ≤ p1)))) = true then
                        some (.next (s214.1, s214.2.1))
                      else
                        ck (I64 ((ix p0 (ix r132 s214.2.2)).Container)) (
                          ck ((List.length s214.2.1 + List.length ([(ix r132 s214.2.2)])) * 8 ≤ 140737488355328) (
                            some (.next ((mput s214.1 ((ix p0 (ix r132 s214.2.2)).Container) ((ix p0 (ix r132 s214.2.2)).At)), (s214.2.1 ++ ([(ix r132 s214.2.2)]))))))))))))
            fun (s234 : (List (Int × Int)) × (List Int)) =>
              ck (I64 (s214.2.2 + (1 : Int))) (
                some (.next (s234.1, s234.2, (s214.2.2 + (1 : Int))))))
          else
            some (.done (.next s214.2.1)))) N (([] : (List (Int × Int))), ([] : List Int), (0 : Int))))
      fun (s130 : (List Int)) =>
        some ((s130, (0 : Int))))))
set_option maxRecDepth 20000 in
theorem m_emptying_Counts_ok (N : Nat) (w0 : World) (p0 : (List ApiEmptying)) (p1 : Int) (A_p0 : Option Addr) (n_p0 c_p0 : Nat) (hr_p0 : RdE w0 7 encApiEmptying A_p0 p0) (hz_p0 : SW A_p0 n_p0 c_p0 (List.length p0)) (r : (List Int) × Int) (hr : m_emptying_Counts N p0 p1 = some r) :
    Calls Try.prog 15 [.slice A_p0 n_p0 c_p0, .int .i64 p1].toArray w0 fun x w1 => ∃ u, x = .returned ((fun (r : (List Int) × Int) (u : (Option Addr) × Nat × Nat) => .tuple #[.slice u.1 u.2.1 u.2.2, .int .i64 r.2]) r u) ∧ Hs w0 ((fun (r : (List Int) × Int) (u : (Option Addr) × Nat × Nat) => [ownE 3 1 encI u.1 u.2.1 u.2.2 r.1]) r u) w1 := by
  refine calls_cm (n := 65) (R := fun r x w1 => ∃ u, x = .returned ((fun (r : (List Int) × Int) (u : (Option Addr) × Nat × Nat) => .tuple #[.slice u.1 u.2.1 u.2.2, .int .i64 r.2]) r u) ∧ Hs w0 ((fun (r : (List Int) × Int) (u : (Option Addr) × Nat × Nat) => [ownE 3 1 encI u.1 u.2.1 u.2.2 r.1]) r u) w1) Try.func15 rfl rfl (Nat.le_of_ble_eq_true rfl) ?_ r hr
  unfold m_emptying_Counts
  refine cm_seq ?_
  refine cm_region ?_
  refine lm_val 4 (by kernel_rfl) (fun w1 c1 => (op_assign (v := .slice _ _ _) rfl)) ?_
  refine lm_val 5 (by kernel_rfl) (fun w1 c1 => (op_assign (v := .int .i64 _) rfl)) ?_
  refine lm_nil ?_
  refine xm_next ?_
  refine cm_seq ?_
  refine cm_seq ?_
  refine cm_region ?_
  refine lm_val 14 (by kernel_rfl) (fun w1 c1 => (op_move (v := .slice _ _ _) rfl)) ?_
  refine lm_call 15 (V := (fun (r : Int) (_u : Unit) => .int .i64 r)) (HR := (fun (_r : Int) (_u : Unit) => [])) (by kernel_rfl) (fun w1 => op_call (by kernel_rfl)) (fun r1 hr1 w1 c1 => m_emptying_Check_ok N w1 p0 (256 : Int) (16 : Int) A_p0 n_p0 c_p0 (hr_p0.old c1) hz_p0 r1 hr1) ?_
  intro r1 u2
  refine lm_val 6 (by kernel_rfl) (fun w1 c1 => (op_assign (v := .int .i64 _) rfl)) ?_
  refine lm_nil ?_
  refine xm_next ?_
  refine cm_seq ?_
  refine cm_region ?_
  refine lm_val 16 (by kernel_rfl) (fun w1 c1 => (op_move (v := .int .i64 _) rfl)) ?_
  refine lm_val 17 (by kernel_rfl) (fun w1 c1 => (op_neq rfl rfl)) ?_
  refine lm_nil ?_
  refine xm_next ?_
  refine cm_cond (by kernel_rfl) rfl (fun h3 => ?_) (fun h3 => ?_)
  · skip
    refine cm_seq ?_
    refine cm_region ?_
    refine lm_val 18 (by kernel_rfl) (fun w1 c1 => (op_move (v := .int .i64 _) rfl)) ?_
    refine lm_val 4 (by kernel_rfl) (fun w1 c1 => (op_assign (v := .slice _ _ _) rfl)) ?_
    refine lm_val 5 (by kernel_rfl) (fun w1 c1 => (op_assign (v := .int .i64 _) rfl)) ?_
    refine lm_nil ?_
    refine xm_next ?_
    refine cm_ret ?_
    refine xm_thenR ?_
    refine xm_nilrow 3 1 encI ?_
    exact xm_retTT rfl (by kernel_rfl) (show _ = Value.slice _ _ _ from rfl) (by kernel_rfl) (show _ = Value.int .i64 _ from rfl) fun w1 c1 => ⟨(none, 0, 0), rfl, hsub [0] (by kernel_rfl) rfl w1 c1⟩
  · skip
    refine cm_skip ?_
    refine xm_next ?_
    refine cm_seq ?_
    refine cm_seq ?_
    refine cm_region ?_
    refine lm_val 19 (by kernel_rfl) (fun w1 c1 => (op_move (v := .int .i64 _) rfl)) ?_
    refine lm_call 20 (V := (fun (r : Bool) (_u : Unit) => .bool r)) (HR := (fun (_r : Bool) (_u : Unit) => [])) (by kernel_rfl) (fun w1 => op_call (by kernel_rfl)) (fun r1 hr1 w1 c1 => m_emptying_within_ok N w1 p1 (0 : Int) (86400 : Int)  r1 hr1) ?_
    intro r4 u5
    refine lm_val 21 (by kernel_rfl) (fun w1 c1 => (op_not rfl)) ?_
    refine lm_nil ?_
    refine xm_next ?_
    refine cm_condB (by kernel_rfl) rfl (fun h6 => ?_) (fun h6 => ?_)
    · skip
      refine cm_seq ?_
      refine cm_region ?_
      refine lm_val 4 (by kernel_rfl) (fun w1 c1 => (op_assign (v := .slice _ _ _) rfl)) ?_
      refine lm_val 5 (by kernel_rfl) (fun w1 c1 => (op_assign (v := .int .i64 _) rfl)) ?_
      refine lm_nil ?_
      refine xm_next ?_
      refine cm_ret ?_
      refine xm_thenR ?_
      refine xm_nilrow 3 1 encI ?_
      exact xm_retTT rfl (by kernel_rfl) (show _ = Value.slice _ _ _ from rfl) (by kernel_rfl) (show _ = Value.int .i64 _ from rfl) fun w1 c1 => ⟨(none, 0, 0), rfl, hsub [0] (by kernel_rfl) rfl w1 c1⟩
    · skip
      refine cm_skip ?_
      refine xm_next ?_
      refine cm_seq ?_
      refine cm_region ?_
      refine lm_makeMap (κ := Int) (α := Int) 22 3 (Value.int .i64) (Value.int .i64) (by kernel_rfl) ?_
      intro b7
      refine lm_val 7 (by kernel_rfl) (fun w1 c1 => (op_assign (v := .map (some _)) rfl)) ?_
      refine lm_nil ?_
      refine xm_next ?_
      refine cm_seq ?_
      refine cm_region ?_
      refine lm_val 8 (by kernel_rfl) (fun w1 c1 => (op_assign (v := .slice _ _ _) rfl)) ?_
      refine lm_nil ?_
      refine xm_next ?_
      refine cm_join (σ := (List Int)) (ξ := (Option Addr) × Nat × Nat) (fun s130 u131 => [(8, .slice u131.1 u131.2.1 u131.2.2)]) (fun s130 u131 => [ownE 3 1 encI u131.1 u131.2.1 u131.2.2 s130]) ?_ ?_
      · skip
        refine cm_seq ?_
        refine cm_region ?_
        refine lm_val 23 (by kernel_rfl) (fun w1 c1 => (op_move (v := .slice _ _ _) rfl)) ?_
        refine lm_call 24 (V := (fun (_r : (List Int)) (u : (Option Addr) × Nat × Nat) => .slice u.1 u.2.1 u.2.2)) (HR := (fun (r : (List Int)) (u : (Option Addr) × Nat × Nat) => [ownE 3 1 encI u.1 u.2.1 u.2.2 r])) (by kernel_rfl) (fun w1 => op_call (by kernel_rfl)) (fun r1 hr1 w1 c1 => m_emptying_sorted_ok N w1 p0 A_p0 n_p0 c_p0 (hr_p0.old c1) hz_p0 r1 hr1) ?_
        intro r132 u133
        refine lm_val 25 (by kernel_rfl) (fun w1 c1 => (op_lenN rfl (by kernel_rfl) (c1.ownZ 0 rfl).2.2)) ?_
        refine lm_val 26 (by kernel_rfl) (fun w1 c1 => (op_move (v := .int .i64 _) rfl)) ?_
        refine lm_nil ?_
        refine xm_next ?_
        refine cm_block ?_
        refine cm_nilrow 3 1 encI ?_
        refine cm_loop (σ := (List (Int × Int)) × (List Int) × Int) (ξ := (Option Addr) × Nat × Nat) (fun s214 u215 => [(0, .slice A_p0 n_p0 c_p0), (1, .int .i64 p1), (7, .map (some b7)), (8, .slice u215.1 u215.2.1 u215.2.2), (24, .slice u133.1 u133.2.1 u133.2.2), (25, .int .i64 (List.length r132 : Int)), (26, .int .i64 s214.2.2)]) (fun s214 u215 => [mapE Try.prog 3 (Value.int .i64) (Value.int .i64) b7 s214.1, ownE 3 1 encI u215.1 u215.2.1 u215.2.2 s214.2.1, ownE 3 1 encI u133.1 u133.2.1 u133.2.2 r132]) (none, 0, 0) ?_ ?_ ?_
        · exact (sub_cons (by kernel_rfl) rfl (sub_cons (by kernel_rfl) rfl (sub_cons (by kernel_rfl) rfl (sub_cons (by kernel_rfl) rfl (sub_cons (by kernel_rfl) rfl (sub_cons (by kernel_rfl) rfl (sub_cons (by kernel_rfl) rfl sub_nil)))))))
        · exact hsub [2, 0, 1] (by kernel_rfl) rfl
        intro s214 u215
        refine cm_seq ?_
        refine cm_region ?_
        refine lm_val 27 (by kernel_rfl) (fun w1 c1 => (op_lss rfl rfl)) ?_
        refine lm_nil ?_
        refine xm_next ?_
        refine cm_seq ?_
        refine cm_cond (by kernel_rfl) rfl (fun h216 => ?_) (fun h216 => ?_)
        · skip
          refine cm_skip ?_
          refine xm_next ?_
          refine cm_join (σ := (List (Int × Int)) × (List Int)) (ξ := (Option Addr) × Nat × Nat) (fun s234 u235 => [(0, .slice A_p0 n_p0 c_p0), (1, .int .i64 p1), (7, .map (some b7)), (8, .slice u235.1 u235.2.1 u235.2.2), (24, .slice u133.1 u133.2.1 u133.2.2), (25, .int .i64 (List.length r132 : Int)), (26, .int .i64 s214.2.2)]) (fun s234 u235 => [mapE Try.prog 3 (Value.int .i64) (Value.int .i64) b7 s234.1, ownE 3 1 encI u235.1 u235.2.1 u235.2.2 s234.2, ownE 3 1 encI u133.1 u133.2.1 u133.2.2 r132]) ?_ ?_
          · skip
            refine cm_block ?_
            refine cm_seq ?_
            refine cm_region ?_
            refine lm_ck (fun h236 => ?_)
            refine lm_val 28 (by kernel_rfl) (fun w1 c1 => (op_indexA 1 rfl rfl (by kernel_rfl) ((c1.own 2 rfl encI_len).addr h236.1 h236.2) (c1.ownZ 2 rfl).2.2 h236.1 h236.2)) ?_
            refine lm_val 29 (by kernel_rfl) (fun w1 c1 => (op_load (v := .int .i64 (ix r132 s214.2.2)) rfl (by kernel_rfl) ((c1.own 2 rfl encI_len).cell0 h236.1 h236.2 rfl))) ?_
            refine lm_val 10 (by kernel_rfl) (fun w1 c1 => (op_assign (v := .int .i64 _) rfl)) ?_
            refine lm_nil ?_
            refine xm_next ?_
            refine cm_seq ?_
            refine cm_region ?_
            refine lm_val 30 (by kernel_rfl) (fun w1 c1 => (op_move (v := .slice _ _ _) rfl)) ?_
            refine lm_val 31 (by kernel_rfl) (fun w1 c1 => (op_move (v := .int .i64 _) rfl)) ?_
            refine lm_ck (fun h237 => ?_)
            refine lm_val 32 (by kernel_rfl) (fun w1 c1 => (op_indexA 7 rfl rfl (by kernel_rfl) ((hr_p0.old c1).addr h237.1 h237.2) hz_p0.2.2 h237.1 h237.2)) ?_
            refine lm_val 33 (by kernel_rfl) (fun w1 c1 => (op_loadR [.int .i64 ((ix p0 (ix r132 s214.2.2)).ID), .int .i64 ((ix p0 (ix r132 s214.2.2)).Container), .int .i64 ((ix p0 (ix r132 s214.2.2)).Vehicle), .int .i64 ((ix p0 (ix r132 s214.2.2)).At), .int .i64 ((ix p0 (ix r132 s214.2.2)).Mass.Lo), .int .i64 ((ix p0 (ix r132 s214.2.2)).Mass.Hi), .bool ((ix p0 (ix r132 s214.2.2)).Void)] rfl (by kernel_rfl) ((hr_p0.old c1).row h237.1 h237.2))) ?_
            refine lm_alloc 11 [.int .i64 0, .int .i64 0, .int .i64 0, .int .i64 0, .int .i64 0, .int .i64 0, .bool false] (v := .agg #[.int .i64 0, .int .i64 0, .int .i64 0, .int .i64 0, .int .i64 0, .int .i64 0, .bool false]) (by kernel_rfl) (by kernel_rfl) rfl ?_
            intro b238
            refine lm_storeA 0 [.int .i64 _, .int .i64 _, .int .i64 _, .int .i64 _, .int .i64 _, .int .i64 _, .bool _] [_, _, _, _, _, _, _] (H' := [blkE _ _ [_, _, _, _, _, _, _], _, _, _]) (by kernel_rfl) rfl rfl (by kernel_rfl) rfl rfl (by kernel_rfl) rfl rfl ?_
            refine lm_nil ?_
            refine xm_next ?_
            refine cm_seq ?_
            refine cm_region ?_
            refine lm_val 35 (by kernel_rfl) (fun w1 c1 => (op_move (v := .map (some _)) rfl)) ?_
            refine lm_val 36 (by kernel_rfl) (fun w1 c1 => (op_fieldL (m := 1) (k := 1) rfl (by kernel_rfl) rfl)) ?_
            refine lm_val 37 (by kernel_rfl) (fun w1 c1 => (op_load rfl (by kernel_rfl) (c1.cell 0 (u := .int .i64 _) rfl rfl))) ?_
            refine lm_ck (fun h239 => ?_)
            refine lm_val 38 (by kernel_rfl) (fun w1 c1 => (op_lookupOk (κ := Int) (α := Int) (ek := (Value.int .i64)) (ev := (Value.int .i64)) (l := s214.1) (y := ((ix p0 (ix r132 s214.2.2)).Container)) (0 : Int) rfl rfl (Maps.int_keyed Try.underlying3) (ek_int .i64) (key_i64 Try.underlying3 h239) Try.underlying55 rfl (c1.map 1 rfl))) ?_
            refine lm_val 34 (by kernel_rfl) (fun w1 c1 => (op_move (v := .tuple _) rfl)) ?_
            refine lm_val 39 (by kernel_rfl) (fun w1 c1 => (op_extract (v := .int .i64 _) rfl rfl)) ?_
            refine lm_val 40 (by kernel_rfl) (fun w1 c1 => (op_extract (v := .bool _) rfl rfl)) ?_
            refine lm_val 12 (by kernel_rfl) (fun w1 c1 => (op_assign (v := .int .i64 _) rfl)) ?_
            refine lm_val 13 (by kernel_rfl) (fun w1 c1 => (op_assign (v := .bool _) rfl)) ?_
            refine lm_nil ?_
            refine xm_next ?_
            refine cm_seq ?_
            refine cm_seq ?_
            refine cm_ck (fun h240 => ?_)
            refine cm_cutE [(53, .bool (((ix p0 (ix r132 s214.2.2)).Void) || ((Option.isSome (mget s214.1 ((ix p0 (ix r132 s214.2.2)).Container))) && (decide ((((ix p0 (ix r132 s214.2.2)).At) - (Option.getD (mget s214.1 ((ix p0 (ix r132 s214.2.2)).Container)) (0 : Int))) ≤ p1)))))] ?_ ?_
            · skip
              refine wq_val 41 (by kernel_rfl) (fun w1 c1 => (op_fieldL (m := 6) (k := 6) rfl (by kernel_rfl) rfl)) ?_
              refine wq_bool 42 (by kernel_rfl) (fun w1 c1 => (op_load rfl (by kernel_rfl) (c1.cell 0 (u := .bool _) rfl rfl))) (fun h241 => ?_) (fun h241 => ?_)
              · skip
                refine wq_val 43 (by kernel_rfl) (fun w1 c1 => (op_move (v := .bool true) rfl)) ?_
                refine wq_skip 44 (by kernel_rfl) ?_
                refine wq_skip 45 (by kernel_rfl) ?_
                refine wq_skip 46 (by kernel_rfl) ?_
                refine wq_skip 47 (by kernel_rfl) ?_
                refine wq_skip 48 (by kernel_rfl) ?_
                refine wq_skip 49 (by kernel_rfl) ?_
                refine wq_skip 50 (by kernel_rfl) ?_
                refine wq_skip 51 (by kernel_rfl) ?_
                refine wq_skip 52 (by kernel_rfl) ?_
                refine wq_val 53 (by kernel_rfl) (fun w1 c1 => (op_pick_t (v := .bool true) rfl rfl)) ?_
                exact leaf_q (sub_out 13 _ rfl (by kernel_rfl) ⟨(congrArg Value.bool (by rw [h241] <;> rfl)), trivial⟩)
              · skip
                refine wq_val 43 (by kernel_rfl) (fun w1 c1 => (op_move (v := .bool false) rfl)) ?_
                refine wq_bool 44 (by kernel_rfl) (fun w1 c1 => (op_move (v := .bool _) rfl)) (fun h242 => ?_) (fun h242 => ?_)
                · skip
                  refine wq_val 45 (by kernel_rfl) (fun w1 c1 => (op_move (v := .bool true) rfl)) ?_
                  refine wq_val 46 (by kernel_rfl) (fun w1 c1 => (op_fieldL (m := 3) (k := 3) rfl (by kernel_rfl) rfl)) ?_
                  refine wq_val 47 (by kernel_rfl) (fun w1 c1 => (op_load rfl (by kernel_rfl) (c1.cell 0 (u := .int .i64 _) rfl rfl))) ?_
                  refine wq_val 48 (by kernel_rfl) (fun w1 c1 => (op_move (v := .int .i64 _) rfl)) ?_
                  refine wq_val 49 (by kernel_rfl) (fun w1 c1 => (op_sub rfl rfl (h240 (by rw [h241, h242] <;> rfl)))) ?_
                  refine wq_val 50 (by kernel_rfl) (fun w1 c1 => (op_move (v := .int .i64 _) rfl)) ?_
                  refine wq_val 51 (by kernel_rfl) (fun w1 c1 => (op_leq rfl rfl)) ?_
                  refine wq_val 52 (by kernel_rfl) (fun w1 c1 => (op_pick_t (v := .bool _) rfl rfl)) ?_
                  refine wq_val 53 (by kernel_rfl) (fun w1 c1 => (op_pick_f (v := .bool _) rfl rfl)) ?_
                  exact leaf_q (sub_out 13 _ rfl (by kernel_rfl) ⟨(congrArg Value.bool (by rw [h241, h242] <;> rfl)), trivial⟩)
                · skip
                  refine wq_val 45 (by kernel_rfl) (fun w1 c1 => (op_move (v := .bool false) rfl)) ?_
                  refine wq_skip 46 (by kernel_rfl) ?_
                  refine wq_skip 47 (by kernel_rfl) ?_
                  refine wq_skip 48 (by kernel_rfl) ?_
                  refine wq_skip 49 (by kernel_rfl) ?_
                  refine wq_skip 50 (by kernel_rfl) ?_
                  refine wq_skip 51 (by kernel_rfl) ?_
                  refine wq_val 52 (by kernel_rfl) (fun w1 c1 => (op_pick_f (v := .bool false) rfl rfl)) ?_
                  refine wq_val 53 (by kernel_rfl) (fun w1 c1 => (op_pick_f (v := .bool false) rfl rfl)) ?_
                  exact leaf_q (sub_out 13 _ rfl (by kernel_rfl) ⟨(congrArg Value.bool (by rw [h241, h242] <;> rfl)), trivial⟩)
            refine xm_next ?_
            refine cm_condB (by kernel_rfl) rfl (fun h243 => ?_) (fun h243 => ?_)
            · skip
              refine cm_exit ?_
              refine xm_thenE ?_
              refine xm_here ?_
              exact xm_lnext (u215.1, u215.2.1, u215.2.2) (sub_cons (by kernel_rfl) rfl (sub_cons (by kernel_rfl) rfl (sub_cons (by kernel_rfl) rfl (sub_cons (by kernel_rfl) rfl (sub_cons (by kernel_rfl) rfl (sub_cons (by kernel_rfl) rfl (sub_cons (by kernel_rfl) rfl sub_nil))))))) (hsub [1, 2, 3] (by kernel_rfl) rfl)
            · skip
              refine cm_skip ?_
              refine xm_next ?_
              refine cm_seq ?_
              refine cm_region ?_
              refine lm_val 54 (by kernel_rfl) (fun w1 c1 => (op_move (v := .map (some _)) rfl)) ?_
              refine lm_val 55 (by kernel_rfl) (fun w1 c1 => (op_fieldL (m := 1) (k := 1) rfl (by kernel_rfl) rfl)) ?_
              refine lm_val 56 (by kernel_rfl) (fun w1 c1 => (op_load rfl (by kernel_rfl) (c1.cell 0 (u := .int .i64 _) rfl rfl))) ?_
              refine lm_val 57 (by kernel_rfl) (fun w1 c1 => (op_fieldL (m := 3) (k := 3) rfl (by kernel_rfl) rfl)) ?_
              refine lm_val 58 (by kernel_rfl) (fun w1 c1 => (op_load rfl (by kernel_rfl) (c1.cell 0 (u := .int .i64 _) rfl rfl))) ?_
              refine lm_ck (fun h244 => ?_)
              refine lm_mapUpdate 1 (κ := Int) (α := Int) (ek := (Value.int .i64)) (ev := (Value.int .i64)) (l := s214.1) (y := ((ix p0 (ix r132 s214.2.2)).Container)) (a := ((ix p0 (ix r132 s214.2.2)).At)) (by kernel_rfl) rfl rfl rfl (Maps.int_keyed Try.underlying3) (ek_int .i64) (key_i64 Try.underlying3 h244) Try.underlying55 rfl rfl ?_
              refine lm_nil ?_
              refine xm_next ?_
              refine cm_region ?_
              refine lm_val 59 (by kernel_rfl) (fun w1 c1 => (op_move (v := .slice _ _ _) rfl)) ?_
              refine lm_val 60 (by kernel_rfl) (fun w1 c1 => (op_move (v := .int .i64 _) rfl)) ?_
              refine lm_slice1 61 (el := 3) (sz := 1) (bytes := 8) (enc := encI) (ix r132 s214.2.2) (by kernel_rfl) (by kernel_rfl) encI_len rfl (by kernel_rfl) ?_
              intro A245 n246 k247 h248
              refine lm_ck (fun h249 => ?_)
              refine lm_append 62 3 (el := 3) (sz := 1) (bytes := 8) (enc := encI) (l2 := ([(ix r132 s214.2.2)])) (by kernel_rfl) (by kernel_rfl) encI_len encI_one rfl rfl rfl (fun w1 c1 => (c1.ownZ 0 rfl)) (fun w1 c1 => (c1.own 0 rfl encI_len)) h249 ?_ (by kernel_rfl)
              intro A250 n251 k252
              refine lm_val 8 (by kernel_rfl) (fun w1 c1 => (op_assign (v := .slice _ _ _) rfl)) ?_
              refine lm_nil ?_
              refine xm_inN ?_
              exact xm_lnext (A250, n251, k252) (sub_cons (by kernel_rfl) rfl (sub_cons (by kernel_rfl) rfl (sub_cons (by kernel_rfl) rfl (sub_cons (by kernel_rfl) rfl (sub_cons (by kernel_rfl) rfl (sub_cons (by kernel_rfl) rfl (sub_cons (by kernel_rfl) rfl sub_nil))))))) (hsub [2, 3, 4] (by kernel_rfl) rfl)
          intro s234 u235
          refine cm_region ?_
          refine lm_ck (fun h253 => ?_)
          refine lm_val 63 (by kernel_rfl) (fun w1 c1 => (op_add rfl rfl h253)) ?_
          refine lm_val 26 (by kernel_rfl) (fun w1 c1 => (op_move (v := .int .i64 _) rfl)) ?_
          refine lm_nil ?_
          exact xm_lnext (u235.1, u235.2.1, u235.2.2) (sub_cons (by kernel_rfl) rfl (sub_cons (by kernel_rfl) rfl (sub_cons (by kernel_rfl) rfl (sub_cons (by kernel_rfl) rfl (sub_cons (by kernel_rfl) rfl (sub_cons (by kernel_rfl) rfl (sub_cons (by kernel_rfl) rfl sub_nil))))))) (hsub [0, 1, 2] (by kernel_rfl) rfl)
        · skip
          refine cm_exit ?_
          refine xm_thenE ?_
          refine xm_lexit ?_
          refine xm_here ?_
          exact xm_lnext (u215.1, u215.2.1, u215.2.2) (sub_cons (by kernel_rfl) rfl sub_nil) (hsub [1] (by kernel_rfl) rfl)
      intro s130 u131
      refine cm_seq ?_
      refine cm_region ?_
      refine lm_val 64 (by kernel_rfl) (fun w1 c1 => (op_move (v := .slice _ _ _) rfl)) ?_
      refine lm_val 4 (by kernel_rfl) (fun w1 c1 => (op_assign (v := .slice _ _ _) rfl)) ?_
      refine lm_val 5 (by kernel_rfl) (fun w1 c1 => (op_assign (v := .int .i64 _) rfl)) ?_
      refine lm_nil ?_
      refine xm_next ?_
      refine cm_ret ?_
      exact xm_retTT rfl (by kernel_rfl) (show _ = Value.slice _ _ _ from rfl) (by kernel_rfl) (show _ = Value.int .i64 _ from rfl) fun w1 c1 => ⟨(u131.1, u131.2.1, u131.2.2), rfl, hsub [0] (by kernel_rfl) rfl w1 c1⟩
/-- emptying.window -/
def m_emptying_window (_N : Nat) (p0 : ApiWindow) : Option (Bool) :=
  some ((((decide (0 ≤ p0.From)) && (decide (p0.From ≤ p0.To))) && (decide (p0.To ≤ 3155760000))))
set_option maxRecDepth 20000 in
theorem m_emptying_window_ok (N : Nat) (w0 : World) (p0 : ApiWindow)   (r : Bool) (hr : m_emptying_window N p0 = some r) :
    Calls Try.prog 28 [.agg #[.int .i64 p0.From, .int .i64 p0.To]].toArray w0 fun x w1 => ∃ u, x = .returned ((fun (r : Bool) (_u : Unit) => .bool r) r u) ∧ Hs w0 ((fun (_r : Bool) (_u : Unit) => []) r u) w1 := by
  refine calls_cm (n := 18) (R := fun r x w1 => ∃ u, x = .returned ((fun (r : Bool) (_u : Unit) => .bool r) r u) ∧ Hs w0 ((fun (_r : Bool) (_u : Unit) => []) r u) w1) Try.func28 rfl rfl (Nat.le_of_ble_eq_true rfl) ?_ r hr
  unfold m_emptying_window
  refine cm_seq ?_
  refine cm_region ?_
  refine lm_box 1 [.int .i64 _, .int .i64 _] (by kernel_rfl) rfl ?_
  intro b1
  refine lm_val 2 (by kernel_rfl) (fun w1 c1 => (op_assign (v := .bool false) rfl)) ?_
  refine lm_nil ?_
  refine xm_next ?_
  refine cm_seq ?_
  refine cm_cutE [(2, .bool (((decide (0 ≤ p0.From)) && (decide (p0.From ≤ p0.To))) && (decide (p0.To ≤ 3155760000))))] ?_ ?_
  · skip
    refine wq_val 3 (by kernel_rfl) (fun w1 c1 => (op_fieldL (m := 0) (k := 0) rfl (by kernel_rfl) rfl)) ?_
    refine wq_val 4 (by kernel_rfl) (fun w1 c1 => (op_load rfl (by kernel_rfl) (c1.cell 0 (u := .int .i64 _) rfl rfl))) ?_
    refine wq_dec 5 (by kernel_rfl) (fun w1 c1 => (op_leq rfl rfl)) (fun h2 => ?_) (fun h2 => ?_)
    · skip
      refine wq_val 6 (by kernel_rfl) (fun w1 c1 => (op_move (v := .bool true) rfl)) ?_
      refine wq_val 7 (by kernel_rfl) (fun w1 c1 => (op_fieldL (m := 0) (k := 0) rfl (by kernel_rfl) rfl)) ?_
      refine wq_val 8 (by kernel_rfl) (fun w1 c1 => (op_load rfl (by kernel_rfl) (c1.cell 0 (u := .int .i64 _) rfl rfl))) ?_
      refine wq_val 9 (by kernel_rfl) (fun w1 c1 => (op_fieldL (m := 1) (k := 1) rfl (by kernel_rfl) rfl)) ?_
      refine wq_val 10 (by kernel_rfl) (fun w1 c1 => (op_load rfl (by kernel_rfl) (c1.cell 0 (u := .int .i64 _) rfl rfl))) ?_
      refine wq_dec 11 (by kernel_rfl) (fun w1 c1 => (op_leq rfl rfl)) (fun h3 => ?_) (fun h3 => ?_)
      · skip
        refine wq_val 12 (by kernel_rfl) (fun w1 c1 => (op_pick_t (v := .bool true) rfl rfl)) ?_
        refine wq_val 13 (by kernel_rfl) (fun w1 c1 => (op_move (v := .bool true) rfl)) ?_
        refine wq_val 14 (by kernel_rfl) (fun w1 c1 => (op_fieldL (m := 1) (k := 1) rfl (by kernel_rfl) rfl)) ?_
        refine wq_val 15 (by kernel_rfl) (fun w1 c1 => (op_load rfl (by kernel_rfl) (c1.cell 0 (u := .int .i64 _) rfl rfl))) ?_
        refine wq_val 16 (by kernel_rfl) (fun w1 c1 => (op_leq rfl rfl)) ?_
        refine wq_val 17 (by kernel_rfl) (fun w1 c1 => (op_pick_t (v := .bool _) rfl rfl)) ?_
        refine wq_val 2 (by kernel_rfl) (fun w1 c1 => (op_assign (v := .bool _) rfl)) ?_
        exact leaf_q (sub_out 16 _ rfl (by kernel_rfl) ⟨(congrArg Value.bool (by rw [decide_eq_true h2, decide_eq_true h3] <;> rfl)), trivial⟩)
      · skip
        refine wq_val 12 (by kernel_rfl) (fun w1 c1 => (op_pick_t (v := .bool false) rfl rfl)) ?_
        refine wq_val 13 (by kernel_rfl) (fun w1 c1 => (op_move (v := .bool false) rfl)) ?_
        refine wq_skip 14 (by kernel_rfl) ?_
        refine wq_skip 15 (by kernel_rfl) ?_
        refine wq_skip 16 (by kernel_rfl) ?_
        refine wq_val 17 (by kernel_rfl) (fun w1 c1 => (op_pick_f (v := .bool false) rfl rfl)) ?_
        refine wq_val 2 (by kernel_rfl) (fun w1 c1 => (op_assign (v := .bool false) rfl)) ?_
        exact leaf_q (sub_out 16 _ rfl (by kernel_rfl) ⟨(congrArg Value.bool (by rw [decide_eq_true h2, decide_eq_false h3] <;> rfl)), trivial⟩)
    · skip
      refine wq_val 6 (by kernel_rfl) (fun w1 c1 => (op_move (v := .bool false) rfl)) ?_
      refine wq_skip 7 (by kernel_rfl) ?_
      refine wq_skip 8 (by kernel_rfl) ?_
      refine wq_skip 9 (by kernel_rfl) ?_
      refine wq_skip 10 (by kernel_rfl) ?_
      refine wq_skip 11 (by kernel_rfl) ?_
      refine wq_val 12 (by kernel_rfl) (fun w1 c1 => (op_pick_f (v := .bool false) rfl rfl)) ?_
      refine wq_val 13 (by kernel_rfl) (fun w1 c1 => (op_move (v := .bool false) rfl)) ?_
      refine wq_skip 14 (by kernel_rfl) ?_
      refine wq_skip 15 (by kernel_rfl) ?_
      refine wq_skip 16 (by kernel_rfl) ?_
      refine wq_val 17 (by kernel_rfl) (fun w1 c1 => (op_pick_f (v := .bool false) rfl rfl)) ?_
      refine wq_val 2 (by kernel_rfl) (fun w1 c1 => (op_assign (v := .bool false) rfl)) ?_
      exact leaf_q (sub_out 16 _ rfl (by kernel_rfl) ⟨(congrArg Value.bool (by rw [decide_eq_false h2] <;> rfl)), trivial⟩)
  refine xm_next ?_
  refine cm_ret ?_
  exact xm_retT rfl (by kernel_rfl) (show _ = Value.bool _ from rfl) fun w1 c1 => ⟨(), rfl, hsub [] (by kernel_rfl) rfl w1 c1⟩
/-- emptying.in -/
def m_emptying_in (_N : Nat) (p0 : ApiWindow) (p1 : Int) : Option (Bool) :=
  some (((decide (p0.From ≤ p1)) && (decide (p1 < p0.To))))
set_option maxRecDepth 20000 in
theorem m_emptying_in_ok (N : Nat) (w0 : World) (p0 : ApiWindow) (p1 : Int)   (r : Bool) (hr : m_emptying_in N p0 p1 = some r) :
    Calls Try.prog 32 [.agg #[.int .i64 p0.From, .int .i64 p0.To], .int .i64 p1].toArray w0 fun x w1 => ∃ u, x = .returned ((fun (r : Bool) (_u : Unit) => .bool r) r u) ∧ Hs w0 ((fun (_r : Bool) (_u : Unit) => []) r u) w1 := by
  refine calls_cm (n := 15) (R := fun r x w1 => ∃ u, x = .returned ((fun (r : Bool) (_u : Unit) => .bool r) r u) ∧ Hs w0 ((fun (_r : Bool) (_u : Unit) => []) r u) w1) Try.func32 rfl rfl (Nat.le_of_ble_eq_true rfl) ?_ r hr
  unfold m_emptying_in
  refine cm_seq ?_
  refine cm_region ?_
  refine lm_box 2 [.int .i64 _, .int .i64 _] (by kernel_rfl) rfl ?_
  intro b1
  refine lm_val 4 (by kernel_rfl) (fun w1 c1 => (op_assign (v := .bool false) rfl)) ?_
  refine lm_nil ?_
  refine xm_next ?_
  refine cm_seq ?_
  refine cm_cutE [(4, .bool ((decide (p0.From ≤ p1)) && (decide (p1 < p0.To))))] ?_ ?_
  · skip
    refine wq_val 5 (by kernel_rfl) (fun w1 c1 => (op_fieldL (m := 0) (k := 0) rfl (by kernel_rfl) rfl)) ?_
    refine wq_val 6 (by kernel_rfl) (fun w1 c1 => (op_load rfl (by kernel_rfl) (c1.cell 0 (u := .int .i64 _) rfl rfl))) ?_
    refine wq_val 7 (by kernel_rfl) (fun w1 c1 => (op_move (v := .int .i64 _) rfl)) ?_
    refine wq_dec 8 (by kernel_rfl) (fun w1 c1 => (op_leq rfl rfl)) (fun h2 => ?_) (fun h2 => ?_)
    · skip
      refine wq_val 9 (by kernel_rfl) (fun w1 c1 => (op_move (v := .bool true) rfl)) ?_
      refine wq_val 10 (by kernel_rfl) (fun w1 c1 => (op_move (v := .int .i64 _) rfl)) ?_
      refine wq_val 11 (by kernel_rfl) (fun w1 c1 => (op_fieldL (m := 1) (k := 1) rfl (by kernel_rfl) rfl)) ?_
      refine wq_val 12 (by kernel_rfl) (fun w1 c1 => (op_load rfl (by kernel_rfl) (c1.cell 0 (u := .int .i64 _) rfl rfl))) ?_
      refine wq_val 13 (by kernel_rfl) (fun w1 c1 => (op_lss rfl rfl)) ?_
      refine wq_val 14 (by kernel_rfl) (fun w1 c1 => (op_pick_t (v := .bool _) rfl rfl)) ?_
      refine wq_val 4 (by kernel_rfl) (fun w1 c1 => (op_assign (v := .bool _) rfl)) ?_
      exact leaf_q (sub_out 11 _ rfl (by kernel_rfl) ⟨(congrArg Value.bool (by rw [decide_eq_true h2] <;> rfl)), trivial⟩)
    · skip
      refine wq_val 9 (by kernel_rfl) (fun w1 c1 => (op_move (v := .bool false) rfl)) ?_
      refine wq_skip 10 (by kernel_rfl) ?_
      refine wq_skip 11 (by kernel_rfl) ?_
      refine wq_skip 12 (by kernel_rfl) ?_
      refine wq_skip 13 (by kernel_rfl) ?_
      refine wq_val 14 (by kernel_rfl) (fun w1 c1 => (op_pick_f (v := .bool false) rfl rfl)) ?_
      refine wq_val 4 (by kernel_rfl) (fun w1 c1 => (op_assign (v := .bool false) rfl)) ?_
      exact leaf_q (sub_out 11 _ rfl (by kernel_rfl) ⟨(congrArg Value.bool (by rw [decide_eq_false h2] <;> rfl)), trivial⟩)
  refine xm_next ?_
  refine cm_ret ?_
  exact xm_retT rfl (by kernel_rfl) (show _ = Value.bool _ from rfl) fun w1 c1 => ⟨(), rfl, hsub [] (by kernel_rfl) rfl w1 c1⟩
/-- span.Valid -/
def m_span_Valid (_N : Nat) (p0 : ApiSpan) : Option (Bool) :=
  some ((((decide (-70368744177664 ≤ p0.Lo)) && (decide (p0.Lo ≤ p0.Hi))) && (decide (p0.Hi ≤ 70368744177664))))
set_option maxRecDepth 20000 in
theorem m_span_Valid_ok (N : Nat) (w0 : World) (p0 : ApiSpan)   (r : Bool) (hr : m_span_Valid N p0 = some r) :
    Calls Try.prog 51 [.agg #[.int .i64 p0.Lo, .int .i64 p0.Hi]].toArray w0 fun x w1 => ∃ u, x = .returned ((fun (r : Bool) (_u : Unit) => .bool r) r u) ∧ Hs w0 ((fun (_r : Bool) (_u : Unit) => []) r u) w1 := by
  refine calls_cm (n := 18) (R := fun r x w1 => ∃ u, x = .returned ((fun (r : Bool) (_u : Unit) => .bool r) r u) ∧ Hs w0 ((fun (_r : Bool) (_u : Unit) => []) r u) w1) Try.func51 rfl rfl (Nat.le_of_ble_eq_true rfl) ?_ r hr
  unfold m_span_Valid
  refine cm_seq ?_
  refine cm_region ?_
  refine lm_box 1 [.int .i64 _, .int .i64 _] (by kernel_rfl) rfl ?_
  intro b1
  refine lm_val 2 (by kernel_rfl) (fun w1 c1 => (op_assign (v := .bool false) rfl)) ?_
  refine lm_nil ?_
  refine xm_next ?_
  refine cm_seq ?_
  refine cm_cutE [(2, .bool (((decide (-70368744177664 ≤ p0.Lo)) && (decide (p0.Lo ≤ p0.Hi))) && (decide (p0.Hi ≤ 70368744177664))))] ?_ ?_
  · skip
    refine wq_val 3 (by kernel_rfl) (fun w1 c1 => (op_fieldL (m := 0) (k := 0) rfl (by kernel_rfl) rfl)) ?_
    refine wq_val 4 (by kernel_rfl) (fun w1 c1 => (op_load rfl (by kernel_rfl) (c1.cell 0 (u := .int .i64 _) rfl rfl))) ?_
    refine wq_dec 5 (by kernel_rfl) (fun w1 c1 => (op_leq rfl rfl)) (fun h2 => ?_) (fun h2 => ?_)
    · skip
      refine wq_val 6 (by kernel_rfl) (fun w1 c1 => (op_move (v := .bool true) rfl)) ?_
      refine wq_val 7 (by kernel_rfl) (fun w1 c1 => (op_fieldL (m := 0) (k := 0) rfl (by kernel_rfl) rfl)) ?_
      refine wq_val 8 (by kernel_rfl) (fun w1 c1 => (op_load rfl (by kernel_rfl) (c1.cell 0 (u := .int .i64 _) rfl rfl))) ?_
      refine wq_val 9 (by kernel_rfl) (fun w1 c1 => (op_fieldL (m := 1) (k := 1) rfl (by kernel_rfl) rfl)) ?_
      refine wq_val 10 (by kernel_rfl) (fun w1 c1 => (op_load rfl (by kernel_rfl) (c1.cell 0 (u := .int .i64 _) rfl rfl))) ?_
      refine wq_dec 11 (by kernel_rfl) (fun w1 c1 => (op_leq rfl rfl)) (fun h3 => ?_) (fun h3 => ?_)
      · skip
        refine wq_val 12 (by kernel_rfl) (fun w1 c1 => (op_pick_t (v := .bool true) rfl rfl)) ?_
        refine wq_val 13 (by kernel_rfl) (fun w1 c1 => (op_move (v := .bool true) rfl)) ?_
        refine wq_val 14 (by kernel_rfl) (fun w1 c1 => (op_fieldL (m := 1) (k := 1) rfl (by kernel_rfl) rfl)) ?_
        refine wq_val 15 (by kernel_rfl) (fun w1 c1 => (op_load rfl (by kernel_rfl) (c1.cell 0 (u := .int .i64 _) rfl rfl))) ?_
        refine wq_val 16 (by kernel_rfl) (fun w1 c1 => (op_leq rfl rfl)) ?_
        refine wq_val 17 (by kernel_rfl) (fun w1 c1 => (op_pick_t (v := .bool _) rfl rfl)) ?_
        refine wq_val 2 (by kernel_rfl) (fun w1 c1 => (op_assign (v := .bool _) rfl)) ?_
        exact leaf_q (sub_out 16 _ rfl (by kernel_rfl) ⟨(congrArg Value.bool (by rw [decide_eq_true h2, decide_eq_true h3] <;> rfl)), trivial⟩)
      · skip
        refine wq_val 12 (by kernel_rfl) (fun w1 c1 => (op_pick_t (v := .bool false) rfl rfl)) ?_
        refine wq_val 13 (by kernel_rfl) (fun w1 c1 => (op_move (v := .bool false) rfl)) ?_
        refine wq_skip 14 (by kernel_rfl) ?_
        refine wq_skip 15 (by kernel_rfl) ?_
        refine wq_skip 16 (by kernel_rfl) ?_
        refine wq_val 17 (by kernel_rfl) (fun w1 c1 => (op_pick_f (v := .bool false) rfl rfl)) ?_
        refine wq_val 2 (by kernel_rfl) (fun w1 c1 => (op_assign (v := .bool false) rfl)) ?_
        exact leaf_q (sub_out 16 _ rfl (by kernel_rfl) ⟨(congrArg Value.bool (by rw [decide_eq_true h2, decide_eq_false h3] <;> rfl)), trivial⟩)
    · skip
      refine wq_val 6 (by kernel_rfl) (fun w1 c1 => (op_move (v := .bool false) rfl)) ?_
      refine wq_skip 7 (by kernel_rfl) ?_
      refine wq_skip 8 (by kernel_rfl) ?_
      refine wq_skip 9 (by kernel_rfl) ?_
      refine wq_skip 10 (by kernel_rfl) ?_
      refine wq_skip 11 (by kernel_rfl) ?_
      refine wq_val 12 (by kernel_rfl) (fun w1 c1 => (op_pick_f (v := .bool false) rfl rfl)) ?_
      refine wq_val 13 (by kernel_rfl) (fun w1 c1 => (op_move (v := .bool false) rfl)) ?_
      refine wq_skip 14 (by kernel_rfl) ?_
      refine wq_skip 15 (by kernel_rfl) ?_
      refine wq_skip 16 (by kernel_rfl) ?_
      refine wq_val 17 (by kernel_rfl) (fun w1 c1 => (op_pick_f (v := .bool false) rfl rfl)) ?_
      refine wq_val 2 (by kernel_rfl) (fun w1 c1 => (op_assign (v := .bool false) rfl)) ?_
      exact leaf_q (sub_out 16 _ rfl (by kernel_rfl) ⟨(congrArg Value.bool (by rw [decide_eq_false h2] <;> rfl)), trivial⟩)
  refine xm_next ?_
  refine cm_ret ?_
  exact xm_retT rfl (by kernel_rfl) (show _ = Value.bool _ from rfl) fun w1 c1 => ⟨(), rfl, hsub [] (by kernel_rfl) rfl w1 c1⟩
/-- span.valid -/
def m_span_valid (N : Nat) (p0 : (List ApiSpan)) : Option (Bool) :=
  (andThen
    (loopM (fun (s48 : Int) =>
      (if s48 < (List.length p0 : Int) then
        ck ((0 : Int) ≤ s48 ∧ s48 < (List.length p0 : Int)) (
          Option.bind (m_span_Valid N (ix p0 s48)) fun r53 => (if (!r53) = true then
            some (.done (.done (false)))
          else
            ck (I64 (s48 + (1 : Int))) (
              some (.next (s48 + (1 : Int))))))
      else
        some (.done (.next ())))) N (0 : Int))
  fun (_s28 : Unit) =>
    some (true))
set_option maxRecDepth 20000 in
theorem m_span_valid_ok (N : Nat) (w0 : World) (p0 : (List ApiSpan)) (A_p0 : Option Addr) (n_p0 c_p0 : Nat) (hr_p0 : RdE w0 2 encApiSpan A_p0 p0) (hz_p0 : SW A_p0 n_p0 c_p0 (List.length p0)) (r : Bool) (hr : m_span_valid N p0 = some r) :
    Calls Try.prog 44 [.slice A_p0 n_p0 c_p0].toArray w0 fun x w1 => ∃ u, x = .returned ((fun (r : Bool) (_u : Unit) => .bool r) r u) ∧ Hs w0 ((fun (_r : Bool) (_u : Unit) => []) r u) w1 := by
  refine calls_cm (n := 15) (R := fun r x w1 => ∃ u, x = .returned ((fun (r : Bool) (_u : Unit) => .bool r) r u) ∧ Hs w0 ((fun (_r : Bool) (_u : Unit) => []) r u) w1) Try.func44 rfl rfl (Nat.le_of_ble_eq_true rfl) ?_ r hr
  unfold m_span_valid
  refine cm_seq ?_
  refine cm_region ?_
  refine lm_val 2 (by kernel_rfl) (fun w1 c1 => (op_assign (v := .bool false) rfl)) ?_
  refine lm_nil ?_
  refine xm_next ?_
  refine cm_join (σ := Unit) (ξ := Unit) (fun s28 u29 => []) (fun s28 u29 => []) ?_ ?_
  · skip
    refine cm_seq ?_
    refine cm_region ?_
    refine lm_val 5 (by kernel_rfl) (fun w1 c1 => (op_move (v := .slice _ _ _) rfl)) ?_
    refine lm_val 6 (by kernel_rfl) (fun w1 c1 => (op_lenN rfl (by kernel_rfl) hz_p0.2.2)) ?_
    refine lm_val 7 (by kernel_rfl) (fun w1 c1 => (op_move (v := .int .i64 _) rfl)) ?_
    refine lm_nil ?_
    refine xm_next ?_
    refine cm_block ?_
    refine cm_loop (σ := Int) (ξ := Unit) (fun s48 u49 => [(5, .slice A_p0 n_p0 c_p0), (6, .int .i64 (List.length p0 : Int)), (7, .int .i64 s48)]) (fun s48 u49 => []) () ?_ ?_ ?_
    · exact (sub_cons (by kernel_rfl) rfl (sub_cons (by kernel_rfl) rfl (sub_cons (by kernel_rfl) rfl sub_nil)))
    · exact hsub [] (by kernel_rfl) rfl
    intro s48 u49
    refine cm_seq ?_
    refine cm_region ?_
    refine lm_val 8 (by kernel_rfl) (fun w1 c1 => (op_lss rfl rfl)) ?_
    refine lm_nil ?_
    refine xm_next ?_
    refine cm_seq ?_
    refine cm_cond (by kernel_rfl) rfl (fun h50 => ?_) (fun h50 => ?_)
    · skip
      refine cm_skip ?_
      refine xm_next ?_
      refine cm_seq ?_
      refine cm_block ?_
      refine cm_seq ?_
      refine cm_region ?_
      refine lm_ck (fun h51 => ?_)
      refine lm_val 9 (by kernel_rfl) (fun w1 c1 => (op_indexA 2 rfl rfl (by kernel_rfl) ((hr_p0.old c1).addr h51.1 h51.2) hz_p0.2.2 h51.1 h51.2)) ?_
      refine lm_val 10 (by kernel_rfl) (fun w1 c1 => (op_loadR [.int .i64 ((ix p0 s48).Lo), .int .i64 ((ix p0 s48).Hi)] rfl (by kernel_rfl) ((hr_p0.old c1).row h51.1 h51.2))) ?_
      refine lm_alloc 4 [.int .i64 0, .int .i64 0] (v := .agg #[.int .i64 0, .int .i64 0]) (by kernel_rfl) (by kernel_rfl) rfl ?_
      intro b52
      refine lm_storeA 0 [.int .i64 _, .int .i64 _] [_, _] (H' := [blkE _ _ [_, _]]) (by kernel_rfl) rfl rfl (by kernel_rfl) rfl rfl (by kernel_rfl) rfl rfl ?_
      refine lm_nil ?_
      refine xm_next ?_
      refine cm_seq ?_
      refine cm_region ?_
      refine lm_val 11 (by kernel_rfl) (fun w1 c1 => (op_loadR [.int .i64 _, .int .i64 _] rfl (by kernel_rfl) (c1.cells 0 rfl rfl))) ?_
      refine lm_call 12 (V := (fun (r : Bool) (_u : Unit) => .bool r)) (HR := (fun (_r : Bool) (_u : Unit) => [])) (by kernel_rfl) (fun w1 => op_call (by kernel_rfl)) (fun r1 hr1 w1 c1 => m_span_Valid_ok N w1 (ix p0 s48)  r1 hr1) ?_
      intro r53 u54
      refine lm_val 13 (by kernel_rfl) (fun w1 c1 => (op_not rfl)) ?_
      refine lm_nil ?_
      refine xm_next ?_
      refine cm_condB (by kernel_rfl) rfl (fun h55 => ?_) (fun h55 => ?_)
      · skip
        refine cm_seq ?_
        refine cm_region ?_
        refine lm_val 2 (by kernel_rfl) (fun w1 c1 => (op_assign (v := .bool false) rfl)) ?_
        refine lm_nil ?_
        refine xm_next ?_
        refine cm_ret ?_
        refine xm_inR ?_
        refine xm_thenR ?_
        refine xm_lret ?_
        refine xm_inR ?_
        refine xm_lret ?_
        exact xm_retT rfl (by kernel_rfl) (show _ = Value.bool false from rfl) fun w1 c1 => ⟨(), rfl, hsub [] (by kernel_rfl) rfl w1 c1⟩
      · skip
        refine cm_skip ?_
        refine xm_inN ?_
        refine xm_next ?_
        refine cm_region ?_
        refine lm_ck (fun h56 => ?_)
        refine lm_val 14 (by kernel_rfl) (fun w1 c1 => (op_add rfl rfl h56)) ?_
        refine lm_val 7 (by kernel_rfl) (fun w1 c1 => (op_move (v := .int .i64 _) rfl)) ?_
        refine lm_nil ?_
        exact xm_lnext () (sub_cons (by kernel_rfl) rfl (sub_cons (by kernel_rfl) rfl (sub_cons (by kernel_rfl) rfl sub_nil))) (hsub [] (by kernel_rfl) rfl)
    · skip
      refine cm_exit ?_
      refine xm_thenE ?_
      refine xm_lexit ?_
      refine xm_here ?_
      exact xm_lnext () sub_nil (hsub [] (by kernel_rfl) rfl)
  intro s28 u29
  refine cm_seq ?_
  refine cm_region ?_
  refine lm_val 2 (by kernel_rfl) (fun w1 c1 => (op_assign (v := .bool true) rfl)) ?_
  refine lm_nil ?_
  refine xm_next ?_
  refine cm_ret ?_
  exact xm_retT rfl (by kernel_rfl) (show _ = Value.bool true from rfl) fun w1 c1 => ⟨(), rfl, hsub [] (by kernel_rfl) rfl w1 c1⟩
/-- span.sum -/
def m_span_sum (_N : Nat) (p0 : Int) (p1 : Int) : Option (Int) :=
  ck (I64 (p0 + p1)) (
    some ((p0 + p1)))
set_option maxRecDepth 20000 in
theorem m_span_sum_ok (N : Nat) (w0 : World) (p0 : Int) (p1 : Int)   (r : Int) (hr : m_span_sum N p0 p1 = some r) :
    Calls Try.prog 47 [.int .i64 p0, .int .i64 p1].toArray w0 fun x w1 => ∃ u, x = .returned ((fun (r : Int) (_u : Unit) => .int .i64 r) r u) ∧ Hs w0 ((fun (_r : Int) (_u : Unit) => []) r u) w1 := by
  refine calls_cm (n := 8) (R := fun r x w1 => ∃ u, x = .returned ((fun (r : Int) (_u : Unit) => .int .i64 r) r u) ∧ Hs w0 ((fun (_r : Int) (_u : Unit) => []) r u) w1) Try.func47 rfl rfl (Nat.le_of_ble_eq_true rfl) ?_ r hr
  unfold m_span_sum
  refine cm_seq ?_
  refine cm_region ?_
  refine lm_val 4 (by kernel_rfl) (fun w1 c1 => (op_assign (v := .int .i64 _) rfl)) ?_
  refine lm_nil ?_
  refine xm_next ?_
  refine cm_seq ?_
  refine cm_region ?_
  refine lm_val 5 (by kernel_rfl) (fun w1 c1 => (op_move (v := .int .i64 _) rfl)) ?_
  refine lm_val 6 (by kernel_rfl) (fun w1 c1 => (op_move (v := .int .i64 _) rfl)) ?_
  refine lm_ck (fun h1 => ?_)
  refine lm_val 7 (by kernel_rfl) (fun w1 c1 => (op_add rfl rfl h1)) ?_
  refine lm_val 4 (by kernel_rfl) (fun w1 c1 => (op_assign (v := .int .i64 _) rfl)) ?_
  refine lm_nil ?_
  refine xm_next ?_
  refine cm_ret ?_
  exact xm_retT rfl (by kernel_rfl) (show _ = Value.int .i64 _ from rfl) fun w1 c1 => ⟨(), rfl, hsub [] (by kernel_rfl) rfl w1 c1⟩
/-- span.ends -/
def m_span_ends_span_sum_span_sum (N : Nat) (p2 : ApiSpan) (p3 : (List ApiSpan)) : Option (ApiSpan) :=
  (andThen
    (loopM (fun (s326 : Int × Int × Int) =>
      (if s326.2.2 < (List.length p3 : Int) then
        ck ((0 : Int) ≤ s326.2.2 ∧ s326.2.2 < (List.length p3 : Int)) (
          Option.bind (m_span_sum N s326.1 ((ix p3 s326.2.2).Lo)) fun r331 => Option.bind (m_span_sum N s326.2.1 ((ix p3 s326.2.2).Hi)) fun r333 => ck (I64 (s326.2.2 + (1 : Int))) (
            some (.next (r331, r333, (s326.2.2 + (1 : Int))))))
      else
        some (.done (.next (s326.1, s326.2.1))))) N (p2.Lo, p2.Hi, (0 : Int)))
  fun (s196 : Int × Int) =>
    some ((ApiSpan.mk s196.1 s196.2)))
set_option maxRecDepth 20000 in
theorem m_span_ends_span_sum_span_sum_ok (N : Nat) (w0 : World) (p2 : ApiSpan) (p3 : (List ApiSpan)) (A_p3 : Option Addr) (n_p3 c_p3 : Nat) (hr_p3 : RdE w0 2 encApiSpan A_p3 p3) (hz_p3 : SW A_p3 n_p3 c_p3 (List.length p3)) (r : ApiSpan) (hr : m_span_ends_span_sum_span_sum N p2 p3 = some r) :
    Calls Try.prog 46 [.func (.func 47) #[] #[], .func (.func 47) #[] #[], .agg #[.int .i64 p2.Lo, .int .i64 p2.Hi], .slice A_p3 n_p3 c_p3].toArray w0 fun x w1 => ∃ u, x = .returned ((fun (r : ApiSpan) (_u : Unit) => .agg #[.int .i64 r.Lo, .int .i64 r.Hi]) r u) ∧ Hs w0 ((fun (_r : ApiSpan) (_u : Unit) => []) r u) w1 := by
  refine calls_cm (n := 34) (R := fun r x w1 => ∃ u, x = .returned ((fun (r : ApiSpan) (_u : Unit) => .agg #[.int .i64 r.Lo, .int .i64 r.Hi]) r u) ∧ Hs w0 ((fun (_r : ApiSpan) (_u : Unit) => []) r u) w1) Try.func46 rfl rfl (Nat.le_of_ble_eq_true rfl) ?_ r hr
  unfold m_span_ends_span_sum_span_sum
  refine cm_seq ?_
  refine cm_region ?_
  refine lm_box 6 [.int .i64 _, .int .i64 _] (by kernel_rfl) rfl ?_
  intro b1
  refine lm_alloc 8 [.int .i64 0, .int .i64 0] (v := .agg #[.int .i64 0, .int .i64 0]) (by kernel_rfl) (by kernel_rfl) rfl ?_
  intro b2
  refine lm_nil ?_
  refine xm_next ?_
  refine cm_seq ?_
  refine cm_region ?_
  refine lm_val 12 (by kernel_rfl) (fun w1 c1 => (op_loadR [.int .i64 _, .int .i64 _] rfl (by kernel_rfl) (c1.cells 1 rfl rfl))) ?_
  refine lm_alloc 9 [.int .i64 0, .int .i64 0] (v := .agg #[.int .i64 0, .int .i64 0]) (by kernel_rfl) (by kernel_rfl) rfl ?_
  intro b3
  refine lm_storeA 0 [.int .i64 _, .int .i64 _] [_, _] (H' := [blkE _ _ [_, _], _, _]) (by kernel_rfl) rfl rfl (by kernel_rfl) rfl rfl (by kernel_rfl) rfl rfl ?_
  refine lm_nil ?_
  refine xm_next ?_
  refine cm_join (σ := Int × Int) (ξ := Unit) (fun s196 u197 => [(8, .pointer (some ⟨b2, 0, none⟩)), (9, .pointer (some ⟨b3, 0, none⟩))]) (fun s196 u197 => [blkE b2 41 [.int .i64 0, .int .i64 0], blkE b3 41 [.int .i64 s196.1, .int .i64 s196.2]]) ?_ ?_
  · skip
    refine cm_seq ?_
    refine cm_region ?_
    refine lm_val 13 (by kernel_rfl) (fun w1 c1 => (op_move (v := .slice _ _ _) rfl)) ?_
    refine lm_val 14 (by kernel_rfl) (fun w1 c1 => (op_lenN rfl (by kernel_rfl) hz_p3.2.2)) ?_
    refine lm_val 15 (by kernel_rfl) (fun w1 c1 => (op_move (v := .int .i64 _) rfl)) ?_
    refine lm_nil ?_
    refine xm_next ?_
    refine cm_block ?_
    refine cm_loop (σ := Int × Int × Int) (ξ := Unit) (fun s326 u327 => [(0, .func (.func 47) #[] #[]), (1, .func (.func 47) #[] #[]), (8, .pointer (some ⟨b2, 0, none⟩)), (9, .pointer (some ⟨b3, 0, none⟩)), (13, .slice A_p3 n_p3 c_p3), (14, .int .i64 (List.length p3 : Int)), (15, .int .i64 s326.2.2)]) (fun s326 u327 => [blkE b2 41 [.int .i64 0, .int .i64 0], blkE b3 41 [.int .i64 s326.1, .int .i64 s326.2.1]]) () ?_ ?_ ?_
    · exact (sub_cons (by kernel_rfl) rfl (sub_cons (by kernel_rfl) rfl (sub_cons (by kernel_rfl) rfl (sub_cons (by kernel_rfl) rfl (sub_cons (by kernel_rfl) rfl (sub_cons (by kernel_rfl) rfl (sub_cons (by kernel_rfl) rfl sub_nil)))))))
    · exact hsub [1, 0] (by kernel_rfl) rfl
    intro s326 u327
    refine cm_seq ?_
    refine cm_region ?_
    refine lm_val 16 (by kernel_rfl) (fun w1 c1 => (op_lss rfl rfl)) ?_
    refine lm_nil ?_
    refine xm_next ?_
    refine cm_seq ?_
    refine cm_cond (by kernel_rfl) rfl (fun h328 => ?_) (fun h328 => ?_)
    · skip
      refine cm_skip ?_
      refine xm_next ?_
      refine cm_seq ?_
      refine cm_block ?_
      refine cm_seq ?_
      refine cm_region ?_
      refine lm_ck (fun h329 => ?_)
      refine lm_val 17 (by kernel_rfl) (fun w1 c1 => (op_indexA 2 rfl rfl (by kernel_rfl) ((hr_p3.old c1).addr h329.1 h329.2) hz_p3.2.2 h329.1 h329.2)) ?_
      refine lm_val 18 (by kernel_rfl) (fun w1 c1 => (op_loadR [.int .i64 ((ix p3 s326.2.2).Lo), .int .i64 ((ix p3 s326.2.2).Hi)] rfl (by kernel_rfl) ((hr_p3.old c1).row h329.1 h329.2))) ?_
      refine lm_alloc 11 [.int .i64 0, .int .i64 0] (v := .agg #[.int .i64 0, .int .i64 0]) (by kernel_rfl) (by kernel_rfl) rfl ?_
      intro b330
      refine lm_storeA 0 [.int .i64 _, .int .i64 _] [_, _] (H' := [blkE _ _ [_, _], _, _]) (by kernel_rfl) rfl rfl (by kernel_rfl) rfl rfl (by kernel_rfl) rfl rfl ?_
      refine lm_nil ?_
      refine xm_next ?_
      refine cm_bind fun r331 h332 => ?_
      refine cm_bind fun r333 h334 => ?_
      refine cm_of_then ?_
      refine cm_held (ξ := Unit) (fun u361 => [(0, .func (.func 47) #[] #[]), (1, .func (.func 47) #[] #[]), (8, .pointer (some ⟨b2, 0, none⟩)), (9, .pointer (some ⟨b3, 0, none⟩)), (13, .slice A_p3 n_p3 c_p3), (14, .int .i64 (List.length p3 : Int)), (15, .int .i64 s326.2.2)]) (fun u361 => [blkE b2 41 [.int .i64 0, .int .i64 0], blkE b3 41 [.int .i64 r331, .int .i64 r333]]) [blkE b330 41 [.int .i64 ((ix p3 s326.2.2).Lo), .int .i64 ((ix p3 s326.2.2).Hi)], blkE b2 41 [.int .i64 0, .int .i64 0]] 14 (by kernel_rfl) (by rfl) (hsub [0, 1] (by kernel_rfl) (by rfl)) ?_ ?_
      · intro w363 c364
        refine wh_take 0 19 rfl (by kernel_rfl) (by kernel_rfl) (fun w2 c2 => (op_move (v := .func _ _ _) rfl)) (hsub [0, 1] (by kernel_rfl) rfl _ c364) ?_
        refine wh_take 1 20 rfl (by kernel_rfl) (by kernel_rfl) (fun w2 c2 => (op_fieldL (m := 0) (k := 0) rfl (by kernel_rfl) rfl)) (hsub [0, 1] (by kernel_rfl) rfl _ c364) ?_
        refine wh_take 3 22 rfl (by kernel_rfl) (by kernel_rfl) (fun w2 c2 => (op_fieldL (m := 0) (k := 0) rfl (by kernel_rfl) rfl)) (hsub [0, 1] (by kernel_rfl) rfl _ c364) ?_
        refine wh_take 4 23 rfl (by kernel_rfl) (by kernel_rfl) (fun w2 c2 => (op_load rfl (by kernel_rfl) (c2.cell 0 (u := .int .i64 _) rfl rfl))) (hsub [0, 1] (by kernel_rfl) rfl _ c364) ?_
        refine wh_take 6 25 rfl (by kernel_rfl) (by kernel_rfl) (fun w2 c2 => (op_move (v := .func _ _ _) rfl)) (hsub [0, 1] (by kernel_rfl) rfl _ c364) ?_
        refine wh_take 7 26 rfl (by kernel_rfl) (by kernel_rfl) (fun w2 c2 => (op_fieldL (m := 1) (k := 1) rfl (by kernel_rfl) rfl)) (hsub [0, 1] (by kernel_rfl) rfl _ c364) ?_
        refine wh_take 9 28 rfl (by kernel_rfl) (by kernel_rfl) (fun w2 c2 => (op_fieldL (m := 1) (k := 1) rfl (by kernel_rfl) rfl)) (hsub [0, 1] (by kernel_rfl) rfl _ c364) ?_
        refine wh_take 10 29 rfl (by kernel_rfl) (by kernel_rfl) (fun w2 c2 => (op_load rfl (by kernel_rfl) (c2.cell 0 (u := .int .i64 _) rfl rfl))) (hsub [0, 1] (by kernel_rfl) rfl _ c364) ?_
        refine wh_ready [2, 8] (by kernel_rfl) rfl ⟨?_, ?_, trivial⟩
        · skip
          refine ws_run 21 rfl (by kernel_rfl) (op_load rfl (by kernel_rfl) (c364.cell 2 (u := .int .i64 _) rfl rfl)) (hsub [0, 1] (by kernel_rfl) rfl _ c364) ?_
          refine wh_ready [5, 8] (by kernel_rfl) rfl ⟨?_, ?_, trivial⟩
          · skip
            refine ws_call 24 rfl (by kernel_rfl) (op_callv rfl (by kernel_rfl)) (m_span_sum_ok N _ s326.1 ((ix p3 s326.2.2).Lo)  r331 h332) ?_
            rintro x w366 ⟨u365, rfl, c367⟩
            replace c367 := c364.call c367
            refine ⟨_, rfl, (hsub [0, 1] (by kernel_rfl) rfl _ c367), ?_⟩
            refine wh_ready [8] (by kernel_rfl) rfl ⟨?_, trivial⟩
            refine ws_run 27 rfl (by kernel_rfl) (op_load rfl (by kernel_rfl) (c367.cell 2 (u := .int .i64 _) rfl rfl)) (hsub [0, 1] (by kernel_rfl) rfl _ c367) ?_
            refine wh_ready [11] (by kernel_rfl) rfl ⟨?_, trivial⟩
            refine ws_call 30 rfl (by kernel_rfl) (op_callv rfl (by kernel_rfl)) (m_span_sum_ok N _ s326.2.1 ((ix p3 s326.2.2).Hi)  r333 h334) ?_
            rintro x w369 ⟨u368, rfl, c370⟩
            replace c370 := c367.call c370
            refine ⟨_, rfl, (hsub [0, 1] (by kernel_rfl) rfl _ c370), ?_⟩
            refine wh_take 12 31 rfl (by kernel_rfl) (by kernel_rfl) (fun w2 c2 => (op_build (z := [.int .i64 0, .int .i64 0]) (tab := [(0, 1), (1, 1)]) (cs := [.int .i64 _, .int .i64 _]) [(0, [.int .i64 _]), (1, [.int .i64 _])] (by kernel_rfl) (by kernel_rfl) (fillOk_cons rfl rfl rfl (fillOk_cons rfl rfl rfl fillOk_nil)) rfl)) (hsub [0, 1] (by kernel_rfl) rfl _ c370) ?_
            refine wh_ready [13] (by kernel_rfl) rfl ⟨?_, trivial⟩
            refine ws_storeA 2 [.int .i64 _, .int .i64 _] [_, _] rfl (by kernel_rfl) rfl rfl (by kernel_rfl) rfl rfl (by kernel_rfl) rfl (H' := [_, _, blkE _ _ [_, _]]) rfl c370 ?_
            intro w371 c372
            refine ⟨(hsub [0, 1] (by kernel_rfl) rfl _ c372), ?_⟩
            exact wh_done () (by kernel_rfl) (sub_cons (by kernel_rfl) rfl (sub_cons (by kernel_rfl) rfl (sub_cons (by kernel_rfl) rfl (sub_cons (by kernel_rfl) rfl (sub_cons (by kernel_rfl) rfl (sub_cons (by kernel_rfl) rfl (sub_cons (by kernel_rfl) rfl sub_nil))))))) (hsub [1, 2] (by kernel_rfl) rfl _ c372)
          · skip
            refine ws_run 27 rfl (by kernel_rfl) (op_load rfl (by kernel_rfl) (c364.cell 2 (u := .int .i64 _) rfl rfl)) (hsub [0, 1] (by kernel_rfl) rfl _ c364) ?_
            refine wh_ready [5] (by kernel_rfl) rfl ⟨?_, trivial⟩
            refine ws_call 24 rfl (by kernel_rfl) (op_callv rfl (by kernel_rfl)) (m_span_sum_ok N _ s326.1 ((ix p3 s326.2.2).Lo)  r331 h332) ?_
            rintro x w374 ⟨u373, rfl, c375⟩
            replace c375 := c364.call c375
            refine ⟨_, rfl, (hsub [0, 1] (by kernel_rfl) rfl _ c375), ?_⟩
            refine wh_ready [11] (by kernel_rfl) rfl ⟨?_, trivial⟩
            refine ws_call 30 rfl (by kernel_rfl) (op_callv rfl (by kernel_rfl)) (m_span_sum_ok N _ s326.2.1 ((ix p3 s326.2.2).Hi)  r333 h334) ?_
            rintro x w377 ⟨u376, rfl, c378⟩
            replace c378 := c375.call c378
            refine ⟨_, rfl, (hsub [0, 1] (by kernel_rfl) rfl _ c378), ?_⟩
            refine wh_take 12 31 rfl (by kernel_rfl) (by kernel_rfl) (fun w2 c2 => (op_build (z := [.int .i64 0, .int .i64 0]) (tab := [(0, 1), (1, 1)]) (cs := [.int .i64 _, .int .i64 _]) [(0, [.int .i64 _]), (1, [.int .i64 _])] (by kernel_rfl) (by kernel_rfl) (fillOk_cons rfl rfl rfl (fillOk_cons rfl rfl rfl fillOk_nil)) rfl)) (hsub [0, 1] (by kernel_rfl) rfl _ c378) ?_
            refine wh_ready [13] (by kernel_rfl) rfl ⟨?_, trivial⟩
            refine ws_storeA 2 [.int .i64 _, .int .i64 _] [_, _] rfl (by kernel_rfl) rfl rfl (by kernel_rfl) rfl rfl (by kernel_rfl) rfl (H' := [_, _, blkE _ _ [_, _]]) rfl c378 ?_
            intro w379 c380
            refine ⟨(hsub [0, 1] (by kernel_rfl) rfl _ c380), ?_⟩
            exact wh_done () (by kernel_rfl) (sub_cons (by kernel_rfl) rfl (sub_cons (by kernel_rfl) rfl (sub_cons (by kernel_rfl) rfl (sub_cons (by kernel_rfl) rfl (sub_cons (by kernel_rfl) rfl (sub_cons (by kernel_rfl) rfl (sub_cons (by kernel_rfl) rfl sub_nil))))))) (hsub [1, 2] (by kernel_rfl) rfl _ c380)
        · skip
          refine ws_run 27 rfl (by kernel_rfl) (op_load rfl (by kernel_rfl) (c364.cell 2 (u := .int .i64 _) rfl rfl)) (hsub [0, 1] (by kernel_rfl) rfl _ c364) ?_
          refine wh_ready [2] (by kernel_rfl) rfl ⟨?_, trivial⟩
          refine ws_run 21 rfl (by kernel_rfl) (op_load rfl (by kernel_rfl) (c364.cell 2 (u := .int .i64 _) rfl rfl)) (hsub [0, 1] (by kernel_rfl) rfl _ c364) ?_
          refine wh_ready [5] (by kernel_rfl) rfl ⟨?_, trivial⟩
          refine ws_call 24 rfl (by kernel_rfl) (op_callv rfl (by kernel_rfl)) (m_span_sum_ok N _ s326.1 ((ix p3 s326.2.2).Lo)  r331 h332) ?_
          rintro x w382 ⟨u381, rfl, c383⟩
          replace c383 := c364.call c383
          refine ⟨_, rfl, (hsub [0, 1] (by kernel_rfl) rfl _ c383), ?_⟩
          refine wh_ready [11] (by kernel_rfl) rfl ⟨?_, trivial⟩
          refine ws_call 30 rfl (by kernel_rfl) (op_callv rfl (by kernel_rfl)) (m_span_sum_ok N _ s326.2.1 ((ix p3 s326.2.2).Hi)  r333 h334) ?_
          rintro x w385 ⟨u384, rfl, c386⟩
          replace c386 := c383.call c386
          refine ⟨_, rfl, (hsub [0, 1] (by kernel_rfl) rfl _ c386), ?_⟩
          refine wh_take 12 31 rfl (by kernel_rfl) (by kernel_rfl) (fun w2 c2 => (op_build (z := [.int .i64 0, .int .i64 0]) (tab := [(0, 1), (1, 1)]) (cs := [.int .i64 _, .int .i64 _]) [(0, [.int .i64 _]), (1, [.int .i64 _])] (by kernel_rfl) (by kernel_rfl) (fillOk_cons rfl rfl rfl (fillOk_cons rfl rfl rfl fillOk_nil)) rfl)) (hsub [0, 1] (by kernel_rfl) rfl _ c386) ?_
          refine wh_ready [13] (by kernel_rfl) rfl ⟨?_, trivial⟩
          refine ws_storeA 2 [.int .i64 _, .int .i64 _] [_, _] rfl (by kernel_rfl) rfl rfl (by kernel_rfl) rfl rfl (by kernel_rfl) rfl (H' := [_, _, blkE _ _ [_, _]]) rfl c386 ?_
          intro w387 c388
          refine ⟨(hsub [0, 1] (by kernel_rfl) rfl _ c388), ?_⟩
          exact wh_done () (by kernel_rfl) (sub_cons (by kernel_rfl) rfl (sub_cons (by kernel_rfl) rfl (sub_cons (by kernel_rfl) rfl (sub_cons (by kernel_rfl) rfl (sub_cons (by kernel_rfl) rfl (sub_cons (by kernel_rfl) rfl (sub_cons (by kernel_rfl) rfl sub_nil))))))) (hsub [1, 2] (by kernel_rfl) rfl _ c388)
      intro u361
      refine xm_of_then ?_
      refine xm_inN ?_
      refine xm_next ?_
      refine cm_region ?_
      refine lm_ck (fun h389 => ?_)
      refine lm_val 32 (by kernel_rfl) (fun w1 c1 => (op_add rfl rfl h389)) ?_
      refine lm_val 15 (by kernel_rfl) (fun w1 c1 => (op_move (v := .int .i64 _) rfl)) ?_
      refine lm_nil ?_
      exact xm_lnext () (sub_cons (by kernel_rfl) rfl (sub_cons (by kernel_rfl) rfl (sub_cons (by kernel_rfl) rfl (sub_cons (by kernel_rfl) rfl (sub_cons (by kernel_rfl) rfl (sub_cons (by kernel_rfl) rfl (sub_cons (by kernel_rfl) rfl sub_nil))))))) (hsub [0, 1] (by kernel_rfl) rfl)
    · skip
      refine cm_exit ?_
      refine xm_thenE ?_
      refine xm_lexit ?_
      refine xm_here ?_
      exact xm_lnext () (sub_cons (by kernel_rfl) rfl (sub_cons (by kernel_rfl) rfl sub_nil)) (hsub [0, 1] (by kernel_rfl) rfl)
  intro s196 u197
  refine cm_seq ?_
  refine cm_region ?_
  refine lm_val 33 (by kernel_rfl) (fun w1 c1 => (op_loadR [.int .i64 _, .int .i64 _] rfl (by kernel_rfl) (c1.cells 1 rfl rfl))) ?_
  refine lm_storeA 0 [.int .i64 _, .int .i64 _] [_, _] (H' := [blkE _ _ [_, _], _]) (by kernel_rfl) rfl rfl (by kernel_rfl) rfl rfl (by kernel_rfl) rfl rfl ?_
  refine lm_nil ?_
  refine xm_next ?_
  refine cm_ret ?_
  exact xm_retC rfl (by kernel_rfl) (show _ = Value.pointer (some ⟨_, 0, none⟩) from rfl) (by kernel_rfl) (fun w1 c1 => c1.cells 0 (ds := [.int .i64 _, .int .i64 _]) rfl rfl) fun w1 c1 => ⟨(), rfl, hsub [] (by kernel_rfl) rfl w1 c1⟩
/-- span.result -/
def m_span_result (N : Nat) (p0 : ApiSpan) : Option (ApiSpan × Int) :=
  Option.bind (m_span_Valid N p0) fun r3 => (if (!r3) = true then
    some (((ApiSpan.mk 0 0), (2 : Int)))
  else
    some ((p0, (0 : Int))))
set_option maxRecDepth 20000 in
theorem m_span_result_ok (N : Nat) (w0 : World) (p0 : ApiSpan)   (r : ApiSpan × Int) (hr : m_span_result N p0 = some r) :
    Calls Try.prog 45 [.agg #[.int .i64 p0.Lo, .int .i64 p0.Hi]].toArray w0 fun x w1 => ∃ u, x = .returned ((fun (r : ApiSpan × Int) (_u : Unit) => .tuple #[.agg #[.int .i64 r.1.Lo, .int .i64 r.1.Hi], .int .i64 r.2]) r u) ∧ Hs w0 ((fun (_r : ApiSpan × Int) (_u : Unit) => []) r u) w1 := by
  refine calls_cm (n := 9) (R := fun r x w1 => ∃ u, x = .returned ((fun (r : ApiSpan × Int) (_u : Unit) => .tuple #[.agg #[.int .i64 r.1.Lo, .int .i64 r.1.Hi], .int .i64 r.2]) r u) ∧ Hs w0 ((fun (_r : ApiSpan × Int) (_u : Unit) => []) r u) w1) Try.func45 rfl rfl (Nat.le_of_ble_eq_true rfl) ?_ r hr
  unfold m_span_result
  refine cm_seq ?_
  refine cm_region ?_
  refine lm_box 1 [.int .i64 _, .int .i64 _] (by kernel_rfl) rfl ?_
  intro b1
  refine lm_alloc 2 [.int .i64 0, .int .i64 0] (v := .agg #[.int .i64 0, .int .i64 0]) (by kernel_rfl) (by kernel_rfl) rfl ?_
  intro b2
  refine lm_val 3 (by kernel_rfl) (fun w1 c1 => (op_assign (v := .int .i64 _) rfl)) ?_
  refine lm_nil ?_
  refine xm_next ?_
  refine cm_seq ?_
  refine cm_seq ?_
  refine cm_region ?_
  refine lm_val 4 (by kernel_rfl) (fun w1 c1 => (op_loadR [.int .i64 _, .int .i64 _] rfl (by kernel_rfl) (c1.cells 1 rfl rfl))) ?_
  refine lm_call 5 (V := (fun (r : Bool) (_u : Unit) => .bool r)) (HR := (fun (_r : Bool) (_u : Unit) => [])) (by kernel_rfl) (fun w1 => op_call (by kernel_rfl)) (fun r1 hr1 w1 c1 => m_span_Valid_ok N w1 p0  r1 hr1) ?_
  intro r3 u4
  refine lm_val 6 (by kernel_rfl) (fun w1 c1 => (op_not rfl)) ?_
  refine lm_nil ?_
  refine xm_next ?_
  refine cm_condB (by kernel_rfl) rfl (fun h5 => ?_) (fun h5 => ?_)
  · skip
    refine cm_seq ?_
    refine cm_region ?_
    refine lm_val 7 (by kernel_rfl) (fun w1 c1 => (op_build (z := [.int .i64 0, .int .i64 0]) (tab := [(0, 1), (1, 1)]) (cs := [.int .i64 _, .int .i64 _]) [] (by kernel_rfl) (by kernel_rfl) fillOk_nil rfl)) ?_
    refine lm_storeA 0 [.int .i64 _, .int .i64 _] [_, _] (H' := [blkE _ _ [_, _], _]) (by kernel_rfl) rfl rfl (by kernel_rfl) rfl rfl (by kernel_rfl) rfl rfl ?_
    refine lm_val 3 (by kernel_rfl) (fun w1 c1 => (op_assign (v := .int .i64 _) rfl)) ?_
    refine lm_nil ?_
    refine xm_next ?_
    refine cm_ret ?_
    refine xm_thenR ?_
    exact xm_retCT rfl (by kernel_rfl) (show _ = Value.pointer (some ⟨_, 0, none⟩) from rfl) (by kernel_rfl) (fun w1 c1 => c1.cells 0 (ds := [.int .i64 _, .int .i64 _]) rfl rfl) (by kernel_rfl) (show _ = Value.int .i64 _ from rfl) fun w1 c1 => ⟨(), rfl, hsub [] (by kernel_rfl) rfl w1 c1⟩
  · skip
    refine cm_skip ?_
    refine xm_next ?_
    refine cm_seq ?_
    refine cm_region ?_
    refine lm_val 8 (by kernel_rfl) (fun w1 c1 => (op_loadR [.int .i64 _, .int .i64 _] rfl (by kernel_rfl) (c1.cells 1 rfl rfl))) ?_
    refine lm_storeA 0 [.int .i64 _, .int .i64 _] [_, _] (H' := [blkE _ _ [_, _], _]) (by kernel_rfl) rfl rfl (by kernel_rfl) rfl rfl (by kernel_rfl) rfl rfl ?_
    refine lm_val 3 (by kernel_rfl) (fun w1 c1 => (op_assign (v := .int .i64 _) rfl)) ?_
    refine lm_nil ?_
    refine xm_next ?_
    refine cm_ret ?_
    exact xm_retCT rfl (by kernel_rfl) (show _ = Value.pointer (some ⟨_, 0, none⟩) from rfl) (by kernel_rfl) (fun w1 c1 => c1.cells 0 (ds := [.int .i64 _, .int .i64 _]) rfl rfl) (by kernel_rfl) (show _ = Value.int .i64 _ from rfl) fun w1 c1 => ⟨(), rfl, hsub [] (by kernel_rfl) rfl w1 c1⟩
/-- span.Sum -/
def m_span_Sum (N : Nat) (p0 : (List ApiSpan)) : Option (ApiSpan × Int) :=
  (if 65536 < (List.length p0 : Int) then
    some (((ApiSpan.mk 0 0), (8 : Int)))
  else
    Option.bind (m_span_valid N p0) fun r3 => (if (!r3) = true then
      some (((ApiSpan.mk 0 0), (1 : Int)))
    else
      Option.bind (m_span_ends_span_sum_span_sum N (ApiSpan.mk 0 0) p0) fun r6 => Option.bind (m_span_result N r6) fun r8 => some ((r8.1, r8.2))))
set_option maxRecDepth 20000 in
theorem m_span_Sum_ok (N : Nat) (w0 : World) (p0 : (List ApiSpan)) (A_p0 : Option Addr) (n_p0 c_p0 : Nat) (hr_p0 : RdE w0 2 encApiSpan A_p0 p0) (hz_p0 : SW A_p0 n_p0 c_p0 (List.length p0)) (r : ApiSpan × Int) (hr : m_span_Sum N p0 = some r) :
    Calls Try.prog 35 [.slice A_p0 n_p0 c_p0].toArray w0 fun x w1 => ∃ u, x = .returned ((fun (r : ApiSpan × Int) (_u : Unit) => .tuple #[.agg #[.int .i64 r.1.Lo, .int .i64 r.1.Hi], .int .i64 r.2]) r u) ∧ Hs w0 ((fun (_r : ApiSpan × Int) (_u : Unit) => []) r u) w1 := by
  refine calls_cm (n := 18) (R := fun r x w1 => ∃ u, x = .returned ((fun (r : ApiSpan × Int) (_u : Unit) => .tuple #[.agg #[.int .i64 r.1.Lo, .int .i64 r.1.Hi], .int .i64 r.2]) r u) ∧ Hs w0 ((fun (_r : ApiSpan × Int) (_u : Unit) => []) r u) w1) Try.func35 rfl rfl (Nat.le_of_ble_eq_true rfl) ?_ r hr
  unfold m_span_Sum
  refine cm_seq ?_
  refine cm_region ?_
  refine lm_alloc 2 [.int .i64 0, .int .i64 0] (v := .agg #[.int .i64 0, .int .i64 0]) (by kernel_rfl) (by kernel_rfl) rfl ?_
  intro b1
  refine lm_val 3 (by kernel_rfl) (fun w1 c1 => (op_assign (v := .int .i64 _) rfl)) ?_
  refine lm_nil ?_
  refine xm_next ?_
  refine cm_seq ?_
  refine cm_seq ?_
  refine cm_region ?_
  refine lm_val 4 (by kernel_rfl) (fun w1 c1 => (op_move (v := .slice _ _ _) rfl)) ?_
  refine lm_val 5 (by kernel_rfl) (fun w1 c1 => (op_lenN rfl (by kernel_rfl) hz_p0.2.2)) ?_
  refine lm_val 6 (by kernel_rfl) (fun w1 c1 => (op_gtr rfl rfl)) ?_
  refine lm_nil ?_
  refine xm_next ?_
  refine cm_cond (by kernel_rfl) rfl (fun h2 => ?_) (fun h2 => ?_)
  · skip
    refine cm_seq ?_
    refine cm_region ?_
    refine lm_val 7 (by kernel_rfl) (fun w1 c1 => (op_build (z := [.int .i64 0, .int .i64 0]) (tab := [(0, 1), (1, 1)]) (cs := [.int .i64 _, .int .i64 _]) [] (by kernel_rfl) (by kernel_rfl) fillOk_nil rfl)) ?_
    refine lm_storeA 0 [.int .i64 _, .int .i64 _] [_, _] (H' := [blkE _ _ [_, _]]) (by kernel_rfl) rfl rfl (by kernel_rfl) rfl rfl (by kernel_rfl) rfl rfl ?_
    refine lm_val 3 (by kernel_rfl) (fun w1 c1 => (op_assign (v := .int .i64 _) rfl)) ?_
    refine lm_nil ?_
    refine xm_next ?_
    refine cm_ret ?_
    refine xm_thenR ?_
    exact xm_retCT rfl (by kernel_rfl) (show _ = Value.pointer (some ⟨_, 0, none⟩) from rfl) (by kernel_rfl) (fun w1 c1 => c1.cells 0 (ds := [.int .i64 _, .int .i64 _]) rfl rfl) (by kernel_rfl) (show _ = Value.int .i64 _ from rfl) fun w1 c1 => ⟨(), rfl, hsub [] (by kernel_rfl) rfl w1 c1⟩
  · skip
    refine cm_skip ?_
    refine xm_next ?_
    refine cm_seq ?_
    refine cm_seq ?_
    refine cm_region ?_
    refine lm_val 8 (by kernel_rfl) (fun w1 c1 => (op_move (v := .slice _ _ _) rfl)) ?_
    refine lm_call 9 (V := (fun (r : Bool) (_u : Unit) => .bool r)) (HR := (fun (_r : Bool) (_u : Unit) => [])) (by kernel_rfl) (fun w1 => op_call (by kernel_rfl)) (fun r1 hr1 w1 c1 => m_span_valid_ok N w1 p0 A_p0 n_p0 c_p0 (hr_p0.old c1) hz_p0 r1 hr1) ?_
    intro r3 u4
    refine lm_val 10 (by kernel_rfl) (fun w1 c1 => (op_not rfl)) ?_
    refine lm_nil ?_
    refine xm_next ?_
    refine cm_condB (by kernel_rfl) rfl (fun h5 => ?_) (fun h5 => ?_)
    · skip
      refine cm_seq ?_
      refine cm_region ?_
      refine lm_val 11 (by kernel_rfl) (fun w1 c1 => (op_build (z := [.int .i64 0, .int .i64 0]) (tab := [(0, 1), (1, 1)]) (cs := [.int .i64 _, .int .i64 _]) [] (by kernel_rfl) (by kernel_rfl) fillOk_nil rfl)) ?_
      refine lm_storeA 0 [.int .i64 _, .int .i64 _] [_, _] (H' := [blkE _ _ [_, _]]) (by kernel_rfl) rfl rfl (by kernel_rfl) rfl rfl (by kernel_rfl) rfl rfl ?_
      refine lm_val 3 (by kernel_rfl) (fun w1 c1 => (op_assign (v := .int .i64 _) rfl)) ?_
      refine lm_nil ?_
      refine xm_next ?_
      refine cm_ret ?_
      refine xm_thenR ?_
      exact xm_retCT rfl (by kernel_rfl) (show _ = Value.pointer (some ⟨_, 0, none⟩) from rfl) (by kernel_rfl) (fun w1 c1 => c1.cells 0 (ds := [.int .i64 _, .int .i64 _]) rfl rfl) (by kernel_rfl) (show _ = Value.int .i64 _ from rfl) fun w1 c1 => ⟨(), rfl, hsub [] (by kernel_rfl) rfl w1 c1⟩
    · skip
      refine cm_skip ?_
      refine xm_next ?_
      refine cm_seq ?_
      refine cm_region ?_
      refine lm_val 12 (by kernel_rfl) (fun w1 c1 => (op_build (z := [.int .i64 0, .int .i64 0]) (tab := [(0, 1), (1, 1)]) (cs := [.int .i64 _, .int .i64 _]) [] (by kernel_rfl) (by kernel_rfl) fillOk_nil rfl)) ?_
      refine lm_val 13 (by kernel_rfl) (fun w1 c1 => (op_move (v := .slice _ _ _) rfl)) ?_
      refine lm_call 14 (V := (fun (r : ApiSpan) (_u : Unit) => .agg #[.int .i64 r.Lo, .int .i64 r.Hi])) (HR := (fun (_r : ApiSpan) (_u : Unit) => [])) (by kernel_rfl) (fun w1 => op_call (by kernel_rfl)) (fun r1 hr1 w1 c1 => m_span_ends_span_sum_span_sum_ok N w1 (ApiSpan.mk 0 0) p0 A_p0 n_p0 c_p0 (hr_p0.old c1) hz_p0 r1 hr1) ?_
      intro r6 u7
      refine lm_call 15 (V := (fun (r : ApiSpan × Int) (_u : Unit) => .tuple #[.agg #[.int .i64 r.1.Lo, .int .i64 r.1.Hi], .int .i64 r.2])) (HR := (fun (_r : ApiSpan × Int) (_u : Unit) => [])) (by kernel_rfl) (fun w1 => op_call (by kernel_rfl)) (fun r1 hr1 w1 c1 => m_span_result_ok N w1 r6  r1 hr1) ?_
      intro r8 u9
      refine lm_val 16 (by kernel_rfl) (fun w1 c1 => (op_extract (v := .agg _) rfl rfl)) ?_
      refine lm_val 17 (by kernel_rfl) (fun w1 c1 => (op_extract (v := .int .i64 _) rfl rfl)) ?_
      refine lm_storeA 0 [.int .i64 _, .int .i64 _] [_, _] (H' := [blkE _ _ [_, _]]) (by kernel_rfl) rfl rfl (by kernel_rfl) rfl rfl (by kernel_rfl) rfl rfl ?_
      refine lm_val 3 (by kernel_rfl) (fun w1 c1 => (op_assign (v := .int .i64 _) rfl)) ?_
      refine lm_nil ?_
      refine xm_next ?_
      refine cm_ret ?_
      exact xm_retCT rfl (by kernel_rfl) (show _ = Value.pointer (some ⟨_, 0, none⟩) from rfl) (by kernel_rfl) (fun w1 c1 => c1.cells 0 (ds := [.int .i64 _, .int .i64 _]) rfl rfl) (by kernel_rfl) (show _ = Value.int .i64 _ from rfl) fun w1 c1 => ⟨(), rfl, hsub [] (by kernel_rfl) rfl w1 c1⟩
/-- emptying.Mass -/
def m_emptying_Mass (N : Nat) (p0 : (List ApiEmptying)) (p1 : Int) (p2 : ApiWindow) : Option (ApiSpan × Int) :=
  Option.bind (m_emptying_Check N p0 (256 : Int) (16 : Int)) fun r3 => (if r3 ≠ 0 then
    some (((ApiSpan.mk 0 0), r3))
  else
    Option.bind (m_emptying_window N p2) fun r6 => (if (!r6) = true then
      some (((ApiSpan.mk 0 0), (1 : Int)))
    else
      (andThen
        (loopM (fun (s191 : (List ApiSpan) × Int) =>
          (if s191.2 < (List.length p0 : Int) then
            (andThen
              (ck ((0 : Int) ≤ s191.2 ∧ s191.2 < (List.length p0 : Int)) (
                callIf (((decide ((ix p0 s191.2).Vehicle = p1)) && (!((ix p0 s191.2).Void))) = true) (m_emptying_in N p2 ((ix p0 s191.2).At)) fun r213 => (if (((decide ((ix p0 s191.2).Vehicle = p1)) && (!((ix p0 s191.2).Void))) && r213) = true then
                  ck ((List.length s191.1 + List.length ([(ix p0 s191.2).Mass])) * 16 ≤ 140737488355328) (
                    some (.next (s191.1 ++ ([(ix p0 s191.2).Mass]))))
                else
                  some (.next s191.1))))
            fun (s209 : (List ApiSpan)) =>
              ck (I64 (s191.2 + (1 : Int))) (
                some (.next (s209, (s191.2 + (1 : Int))))))
          else
            some (.done (.next s191.1)))) N (([] : List ApiSpan), (0 : Int)))
      fun (s117 : (List ApiSpan)) =>
        Option.bind (m_span_Sum N s117) fun r227 => some ((r227.1, r227.2)))))
set_option maxRecDepth 20000 in
theorem m_emptying_Mass_ok (N : Nat) (w0 : World) (p0 : (List ApiEmptying)) (p1 : Int) (p2 : ApiWindow) (A_p0 : Option Addr) (n_p0 c_p0 : Nat) (hr_p0 : RdE w0 7 encApiEmptying A_p0 p0) (hz_p0 : SW A_p0 n_p0 c_p0 (List.length p0)) (r : ApiSpan × Int) (hr : m_emptying_Mass N p0 p1 p2 = some r) :
    Calls Try.prog 20 [.slice A_p0 n_p0 c_p0, .int .i64 p1, .agg #[.int .i64 p2.From, .int .i64 p2.To]].toArray w0 fun x w1 => ∃ u, x = .returned ((fun (r : ApiSpan × Int) (_u : Unit) => .tuple #[.agg #[.int .i64 r.1.Lo, .int .i64 r.1.Hi], .int .i64 r.2]) r u) ∧ Hs w0 ((fun (_r : ApiSpan × Int) (_u : Unit) => []) r u) w1 := by
  refine calls_cm (n := 53) (R := fun r x w1 => ∃ u, x = .returned ((fun (r : ApiSpan × Int) (_u : Unit) => .tuple #[.agg #[.int .i64 r.1.Lo, .int .i64 r.1.Hi], .int .i64 r.2]) r u) ∧ Hs w0 ((fun (_r : ApiSpan × Int) (_u : Unit) => []) r u) w1) Try.func20 rfl rfl (Nat.le_of_ble_eq_true rfl) ?_ r hr
  unfold m_emptying_Mass
  refine cm_seq ?_
  refine cm_region ?_
  refine lm_box 5 [.int .i64 _, .int .i64 _] (by kernel_rfl) rfl ?_
  intro b1
  refine lm_alloc 6 [.int .i64 0, .int .i64 0] (v := .agg #[.int .i64 0, .int .i64 0]) (by kernel_rfl) (by kernel_rfl) rfl ?_
  intro b2
  refine lm_val 7 (by kernel_rfl) (fun w1 c1 => (op_assign (v := .int .i64 _) rfl)) ?_
  refine lm_nil ?_
  refine xm_next ?_
  refine cm_seq ?_
  refine cm_seq ?_
  refine cm_region ?_
  refine lm_val 12 (by kernel_rfl) (fun w1 c1 => (op_move (v := .slice _ _ _) rfl)) ?_
  refine lm_call 13 (V := (fun (r : Int) (_u : Unit) => .int .i64 r)) (HR := (fun (_r : Int) (_u : Unit) => [])) (by kernel_rfl) (fun w1 => op_call (by kernel_rfl)) (fun r1 hr1 w1 c1 => m_emptying_Check_ok N w1 p0 (256 : Int) (16 : Int) A_p0 n_p0 c_p0 (hr_p0.old c1) hz_p0 r1 hr1) ?_
  intro r3 u4
  refine lm_val 8 (by kernel_rfl) (fun w1 c1 => (op_assign (v := .int .i64 _) rfl)) ?_
  refine lm_nil ?_
  refine xm_next ?_
  refine cm_seq ?_
  refine cm_region ?_
  refine lm_val 14 (by kernel_rfl) (fun w1 c1 => (op_move (v := .int .i64 _) rfl)) ?_
  refine lm_val 15 (by kernel_rfl) (fun w1 c1 => (op_neq rfl rfl)) ?_
  refine lm_nil ?_
  refine xm_next ?_
  refine cm_cond (by kernel_rfl) rfl (fun h5 => ?_) (fun h5 => ?_)
  · skip
    refine cm_seq ?_
    refine cm_region ?_
    refine lm_val 16 (by kernel_rfl) (fun w1 c1 => (op_build (z := [.int .i64 0, .int .i64 0]) (tab := [(0, 1), (1, 1)]) (cs := [.int .i64 _, .int .i64 _]) [] (by kernel_rfl) (by kernel_rfl) fillOk_nil rfl)) ?_
    refine lm_val 17 (by kernel_rfl) (fun w1 c1 => (op_move (v := .int .i64 _) rfl)) ?_
    refine lm_storeA 0 [.int .i64 _, .int .i64 _] [_, _] (H' := [blkE _ _ [_, _], _]) (by kernel_rfl) rfl rfl (by kernel_rfl) rfl rfl (by kernel_rfl) rfl rfl ?_
    refine lm_val 7 (by kernel_rfl) (fun w1 c1 => (op_assign (v := .int .i64 _) rfl)) ?_
    refine lm_nil ?_
    refine xm_next ?_
    refine cm_ret ?_
    refine xm_thenR ?_
    exact xm_retCT rfl (by kernel_rfl) (show _ = Value.pointer (some ⟨_, 0, none⟩) from rfl) (by kernel_rfl) (fun w1 c1 => c1.cells 0 (ds := [.int .i64 _, .int .i64 _]) rfl rfl) (by kernel_rfl) (show _ = Value.int .i64 _ from rfl) fun w1 c1 => ⟨(), rfl, hsub [] (by kernel_rfl) rfl w1 c1⟩
  · skip
    refine cm_skip ?_
    refine xm_next ?_
    refine cm_seq ?_
    refine cm_seq ?_
    refine cm_region ?_
    refine lm_val 18 (by kernel_rfl) (fun w1 c1 => (op_loadR [.int .i64 _, .int .i64 _] rfl (by kernel_rfl) (c1.cells 1 rfl rfl))) ?_
    refine lm_call 19 (V := (fun (r : Bool) (_u : Unit) => .bool r)) (HR := (fun (_r : Bool) (_u : Unit) => [])) (by kernel_rfl) (fun w1 => op_call (by kernel_rfl)) (fun r1 hr1 w1 c1 => m_emptying_window_ok N w1 p2  r1 hr1) ?_
    intro r6 u7
    refine lm_val 20 (by kernel_rfl) (fun w1 c1 => (op_not rfl)) ?_
    refine lm_nil ?_
    refine xm_next ?_
    refine cm_condB (by kernel_rfl) rfl (fun h8 => ?_) (fun h8 => ?_)
    · skip
      refine cm_seq ?_
      refine cm_region ?_
      refine lm_val 21 (by kernel_rfl) (fun w1 c1 => (op_build (z := [.int .i64 0, .int .i64 0]) (tab := [(0, 1), (1, 1)]) (cs := [.int .i64 _, .int .i64 _]) [] (by kernel_rfl) (by kernel_rfl) fillOk_nil rfl)) ?_
      refine lm_storeA 0 [.int .i64 _, .int .i64 _] [_, _] (H' := [blkE _ _ [_, _], _]) (by kernel_rfl) rfl rfl (by kernel_rfl) rfl rfl (by kernel_rfl) rfl rfl ?_
      refine lm_val 7 (by kernel_rfl) (fun w1 c1 => (op_assign (v := .int .i64 _) rfl)) ?_
      refine lm_nil ?_
      refine xm_next ?_
      refine cm_ret ?_
      refine xm_thenR ?_
      exact xm_retCT rfl (by kernel_rfl) (show _ = Value.pointer (some ⟨_, 0, none⟩) from rfl) (by kernel_rfl) (fun w1 c1 => c1.cells 0 (ds := [.int .i64 _, .int .i64 _]) rfl rfl) (by kernel_rfl) (show _ = Value.int .i64 _ from rfl) fun w1 c1 => ⟨(), rfl, hsub [] (by kernel_rfl) rfl w1 c1⟩
    · skip
      refine cm_skip ?_
      refine xm_next ?_
      refine cm_seq ?_
      refine cm_region ?_
      refine lm_val 9 (by kernel_rfl) (fun w1 c1 => (op_assign (v := .slice _ _ _) rfl)) ?_
      refine lm_nil ?_
      refine xm_next ?_
      refine cm_join (σ := (List ApiSpan)) (ξ := (Option Addr) × Nat × Nat) (fun s117 u118 => [(6, .pointer (some ⟨b2, 0, none⟩)), (9, .slice u118.1 u118.2.1 u118.2.2)]) (fun s117 u118 => [blkE b2 41 [.int .i64 0, .int .i64 0], ownE 41 2 encApiSpan u118.1 u118.2.1 u118.2.2 s117]) ?_ ?_
      · skip
        refine cm_seq ?_
        refine cm_region ?_
        refine lm_val 22 (by kernel_rfl) (fun w1 c1 => (op_move (v := .slice _ _ _) rfl)) ?_
        refine lm_val 23 (by kernel_rfl) (fun w1 c1 => (op_lenN rfl (by kernel_rfl) hz_p0.2.2)) ?_
        refine lm_val 24 (by kernel_rfl) (fun w1 c1 => (op_move (v := .int .i64 _) rfl)) ?_
        refine lm_nil ?_
        refine xm_next ?_
        refine cm_block ?_
        refine cm_nilrow 41 2 encApiSpan ?_
        refine cm_loop (σ := (List ApiSpan) × Int) (ξ := (Option Addr) × Nat × Nat) (fun s191 u192 => [(1, .int .i64 p1), (5, .pointer (some ⟨b1, 0, none⟩)), (6, .pointer (some ⟨b2, 0, none⟩)), (9, .slice u192.1 u192.2.1 u192.2.2), (22, .slice A_p0 n_p0 c_p0), (23, .int .i64 (List.length p0 : Int)), (24, .int .i64 s191.2)]) (fun s191 u192 => [blkE b1 35 [.int .i64 p2.From, .int .i64 p2.To], blkE b2 41 [.int .i64 0, .int .i64 0], ownE 41 2 encApiSpan u192.1 u192.2.1 u192.2.2 s191.1]) (none, 0, 0) ?_ ?_ ?_
        · exact (sub_cons (by kernel_rfl) rfl (sub_cons (by kernel_rfl) rfl (sub_cons (by kernel_rfl) rfl (sub_cons (by kernel_rfl) rfl (sub_cons (by kernel_rfl) rfl (sub_cons (by kernel_rfl) rfl (sub_cons (by kernel_rfl) rfl sub_nil)))))))
        · exact hsub [2, 1, 0] (by kernel_rfl) rfl
        intro s191 u192
        refine cm_seq ?_
        refine cm_region ?_
        refine lm_val 25 (by kernel_rfl) (fun w1 c1 => (op_lss rfl rfl)) ?_
        refine lm_nil ?_
        refine xm_next ?_
        refine cm_seq ?_
        refine cm_cond (by kernel_rfl) rfl (fun h193 => ?_) (fun h193 => ?_)
        · skip
          refine cm_skip ?_
          refine xm_next ?_
          refine cm_join (σ := (List ApiSpan)) (ξ := (Option Addr) × Nat × Nat) (fun s209 u210 => [(1, .int .i64 p1), (5, .pointer (some ⟨b1, 0, none⟩)), (6, .pointer (some ⟨b2, 0, none⟩)), (9, .slice u210.1 u210.2.1 u210.2.2), (22, .slice A_p0 n_p0 c_p0), (23, .int .i64 (List.length p0 : Int)), (24, .int .i64 s191.2)]) (fun s209 u210 => [blkE b1 35 [.int .i64 p2.From, .int .i64 p2.To], blkE b2 41 [.int .i64 0, .int .i64 0], ownE 41 2 encApiSpan u210.1 u210.2.1 u210.2.2 s209]) ?_ ?_
          · skip
            refine cm_block ?_
            refine cm_seq ?_
            refine cm_region ?_
            refine lm_ck (fun h211 => ?_)
            refine lm_val 26 (by kernel_rfl) (fun w1 c1 => (op_indexA 7 rfl rfl (by kernel_rfl) ((hr_p0.old c1).addr h211.1 h211.2) hz_p0.2.2 h211.1 h211.2)) ?_
            refine lm_val 27 (by kernel_rfl) (fun w1 c1 => (op_loadR [.int .i64 ((ix p0 s191.2).ID), .int .i64 ((ix p0 s191.2).Container), .int .i64 ((ix p0 s191.2).Vehicle), .int .i64 ((ix p0 s191.2).At), .int .i64 ((ix p0 s191.2).Mass.Lo), .int .i64 ((ix p0 s191.2).Mass.Hi), .bool ((ix p0 s191.2).Void)] rfl (by kernel_rfl) ((hr_p0.old c1).row h211.1 h211.2))) ?_
            refine lm_alloc 11 [.int .i64 0, .int .i64 0, .int .i64 0, .int .i64 0, .int .i64 0, .int .i64 0, .bool false] (v := .agg #[.int .i64 0, .int .i64 0, .int .i64 0, .int .i64 0, .int .i64 0, .int .i64 0, .bool false]) (by kernel_rfl) (by kernel_rfl) rfl ?_
            intro b212
            refine lm_storeA 0 [.int .i64 _, .int .i64 _, .int .i64 _, .int .i64 _, .int .i64 _, .int .i64 _, .bool _] [_, _, _, _, _, _, _] (H' := [blkE _ _ [_, _, _, _, _, _, _], _, _, _]) (by kernel_rfl) rfl rfl (by kernel_rfl) rfl rfl (by kernel_rfl) rfl rfl ?_
            refine lm_nil ?_
            refine xm_next ?_
            refine cm_seq ?_
            refine cm_callIf fun r213 h214 => ?_
            refine cm_cutE [(42, .bool (((decide ((ix p0 s191.2).Vehicle = p1)) && (!((ix p0 s191.2).Void))) && r213))] ?_ ?_
            · skip
              refine wq_val 28 (by kernel_rfl) (fun w1 c1 => (op_fieldL (m := 2) (k := 2) rfl (by kernel_rfl) rfl)) ?_
              refine wq_val 29 (by kernel_rfl) (fun w1 c1 => (op_load rfl (by kernel_rfl) (c1.cell 0 (u := .int .i64 _) rfl rfl))) ?_
              refine wq_val 30 (by kernel_rfl) (fun w1 c1 => (op_move (v := .int .i64 _) rfl)) ?_
              refine wq_dec 31 (by kernel_rfl) (fun w1 c1 => (op_eql rfl rfl)) (fun h215 => ?_) (fun h215 => ?_)
              · skip
                refine wq_val 32 (by kernel_rfl) (fun w1 c1 => (op_move (v := .bool true) rfl)) ?_
                refine wq_val 33 (by kernel_rfl) (fun w1 c1 => (op_fieldL (m := 6) (k := 6) rfl (by kernel_rfl) rfl)) ?_
                refine wq_bool 34 (by kernel_rfl) (fun w1 c1 => (op_load rfl (by kernel_rfl) (c1.cell 0 (u := .bool _) rfl rfl))) (fun h216 => ?_) (fun h216 => ?_)
                · skip
                  refine wq_val 35 (by kernel_rfl) (fun w1 c1 => (op_nott rfl)) ?_
                  refine wq_val 36 (by kernel_rfl) (fun w1 c1 => (op_pick_t (v := .bool false) rfl rfl)) ?_
                  refine wq_val 37 (by kernel_rfl) (fun w1 c1 => (op_move (v := .bool false) rfl)) ?_
                  refine wq_skip 38 (by kernel_rfl) ?_
                  refine wq_skip 39 (by kernel_rfl) ?_
                  refine wq_skip 40 (by kernel_rfl) ?_
                  refine wq_skip 41 (by kernel_rfl) ?_
                  refine wq_val 42 (by kernel_rfl) (fun w1 c1 => (op_pick_f (v := .bool false) rfl rfl)) ?_
                  exact leaf_q (sub_out 15 _ rfl (by kernel_rfl) ⟨(congrArg Value.bool (by rw [decide_eq_true h215, h216] <;> rfl)), trivial⟩)
                · skip
                  refine wq_val 35 (by kernel_rfl) (fun w1 c1 => (op_notf rfl)) ?_
                  refine wq_val 36 (by kernel_rfl) (fun w1 c1 => (op_pick_t (v := .bool true) rfl rfl)) ?_
                  refine wq_val 37 (by kernel_rfl) (fun w1 c1 => (op_move (v := .bool true) rfl)) ?_
                  refine wq_val 38 (by kernel_rfl) (fun w1 c1 => (op_loadR [.int .i64 _, .int .i64 _] rfl (by kernel_rfl) (c1.cells 1 rfl rfl))) ?_
                  refine wq_val 39 (by kernel_rfl) (fun w1 c1 => (op_fieldL (m := 3) (k := 3) rfl (by kernel_rfl) rfl)) ?_
                  refine wq_val 40 (by kernel_rfl) (fun w1 c1 => (op_load rfl (by kernel_rfl) (c1.cell 0 (u := .int .i64 _) rfl rfl))) ?_
                  refine wq_call 41 (by kernel_rfl) (fun w1 c1 => op_call (by kernel_rfl)) (fun w1 c1 => (m_emptying_in_ok N w1 p2 ((ix p0 s191.2).At)  r213 (h214 (by rw [decide_eq_true h215, h216] <;> rfl))).mono (fun _ _ ⟨_, hx, hu⟩ => ⟨hx, c1.call hu⟩)) ?_
                  refine wq_val 42 (by kernel_rfl) (fun w1 c1 => (op_pick_t (v := .bool _) rfl rfl)) ?_
                  exact leaf_q (sub_out 15 _ rfl (by kernel_rfl) ⟨(congrArg Value.bool (by rw [decide_eq_true h215, h216] <;> rfl)), trivial⟩)
              · skip
                refine wq_val 32 (by kernel_rfl) (fun w1 c1 => (op_move (v := .bool false) rfl)) ?_
                refine wq_skip 33 (by kernel_rfl) ?_
                refine wq_skip 34 (by kernel_rfl) ?_
                refine wq_skip 35 (by kernel_rfl) ?_
                refine wq_val 36 (by kernel_rfl) (fun w1 c1 => (op_pick_f (v := .bool false) rfl rfl)) ?_
                refine wq_val 37 (by kernel_rfl) (fun w1 c1 => (op_move (v := .bool false) rfl)) ?_
                refine wq_skip 38 (by kernel_rfl) ?_
                refine wq_skip 39 (by kernel_rfl) ?_
                refine wq_skip 40 (by kernel_rfl) ?_
                refine wq_skip 41 (by kernel_rfl) ?_
                refine wq_val 42 (by kernel_rfl) (fun w1 c1 => (op_pick_f (v := .bool false) rfl rfl)) ?_
                exact leaf_q (sub_out 15 _ rfl (by kernel_rfl) ⟨(congrArg Value.bool (by rw [decide_eq_false h215] <;> rfl)), trivial⟩)
            refine xm_next ?_
            refine cm_condB (by kernel_rfl) rfl (fun h217 => ?_) (fun h217 => ?_)
            · skip
              refine cm_region ?_
              refine lm_val 43 (by kernel_rfl) (fun w1 c1 => (op_move (v := .slice _ _ _) rfl)) ?_
              refine lm_val 44 (by kernel_rfl) (fun w1 c1 => (op_fieldL (m := 4) (k := 4) rfl (by kernel_rfl) rfl)) ?_
              refine lm_val 45 (by kernel_rfl) (fun w1 c1 => (op_loadR [.int .i64 _, .int .i64 _] rfl (by kernel_rfl) (c1.cells 0 rfl rfl))) ?_
              refine lm_slice1 46 (el := 41) (sz := 2) (bytes := 16) (enc := encApiSpan) ((ix p0 s191.2).Mass) (by kernel_rfl) (by kernel_rfl) encApiSpan_len rfl (by kernel_rfl) ?_
              intro A218 n219 k220 h221
              refine lm_ck (fun h222 => ?_)
              refine lm_append 47 4 (el := 41) (sz := 2) (bytes := 16) (enc := encApiSpan) (l2 := ([(ix p0 s191.2).Mass])) (by kernel_rfl) (by kernel_rfl) encApiSpan_len encApiSpan_one rfl rfl rfl (fun w1 c1 => (c1.ownZ 0 rfl)) (fun w1 c1 => (c1.own 0 rfl encApiSpan_len)) h222 ?_ (by kernel_rfl)
              intro A223 n224 k225
              refine lm_val 9 (by kernel_rfl) (fun w1 c1 => (op_assign (v := .slice _ _ _) rfl)) ?_
              refine lm_nil ?_
              refine xm_inN ?_
              exact xm_lnext (A223, n224, k225) (sub_cons (by kernel_rfl) rfl (sub_cons (by kernel_rfl) rfl (sub_cons (by kernel_rfl) rfl (sub_cons (by kernel_rfl) rfl (sub_cons (by kernel_rfl) rfl (sub_cons (by kernel_rfl) rfl (sub_cons (by kernel_rfl) rfl sub_nil))))))) (hsub [2, 3, 4] (by kernel_rfl) rfl)
            · skip
              refine cm_skip ?_
              refine xm_inN ?_
              exact xm_lnext (u192.1, u192.2.1, u192.2.2) (sub_cons (by kernel_rfl) rfl (sub_cons (by kernel_rfl) rfl (sub_cons (by kernel_rfl) rfl (sub_cons (by kernel_rfl) rfl (sub_cons (by kernel_rfl) rfl (sub_cons (by kernel_rfl) rfl (sub_cons (by kernel_rfl) rfl sub_nil))))))) (hsub [1, 2, 3] (by kernel_rfl) rfl)
          intro s209 u210
          refine cm_region ?_
          refine lm_ck (fun h226 => ?_)
          refine lm_val 48 (by kernel_rfl) (fun w1 c1 => (op_add rfl rfl h226)) ?_
          refine lm_val 24 (by kernel_rfl) (fun w1 c1 => (op_move (v := .int .i64 _) rfl)) ?_
          refine lm_nil ?_
          exact xm_lnext (u210.1, u210.2.1, u210.2.2) (sub_cons (by kernel_rfl) rfl (sub_cons (by kernel_rfl) rfl (sub_cons (by kernel_rfl) rfl (sub_cons (by kernel_rfl) rfl (sub_cons (by kernel_rfl) rfl (sub_cons (by kernel_rfl) rfl (sub_cons (by kernel_rfl) rfl sub_nil))))))) (hsub [0, 1, 2] (by kernel_rfl) rfl)
        · skip
          refine cm_exit ?_
          refine xm_thenE ?_
          refine xm_lexit ?_
          refine xm_here ?_
          exact xm_lnext (u192.1, u192.2.1, u192.2.2) (sub_cons (by kernel_rfl) rfl (sub_cons (by kernel_rfl) rfl sub_nil)) (hsub [1, 2] (by kernel_rfl) rfl)
      intro s117 u118
      refine cm_seq ?_
      refine cm_region ?_
      refine lm_val 49 (by kernel_rfl) (fun w1 c1 => (op_move (v := .slice _ _ _) rfl)) ?_
      refine lm_call 50 (V := (fun (r : ApiSpan × Int) (_u : Unit) => .tuple #[.agg #[.int .i64 r.1.Lo, .int .i64 r.1.Hi], .int .i64 r.2])) (HR := (fun (_r : ApiSpan × Int) (_u : Unit) => [])) (by kernel_rfl) (fun w1 => op_call (by kernel_rfl)) (fun r1 hr1 w1 c1 => m_span_Sum_ok N w1 s117 u118.1 u118.2.1 u118.2.2 (c1.own 1 rfl encApiSpan_len) (c1.ownZ 1 rfl) r1 hr1) ?_
      intro r227 u228
      refine lm_val 51 (by kernel_rfl) (fun w1 c1 => (op_extract (v := .agg _) rfl rfl)) ?_
      refine lm_val 52 (by kernel_rfl) (fun w1 c1 => (op_extract (v := .int .i64 _) rfl rfl)) ?_
      refine lm_storeA 0 [.int .i64 _, .int .i64 _] [_, _] (H' := [blkE _ _ [_, _], _]) (by kernel_rfl) rfl rfl (by kernel_rfl) rfl rfl (by kernel_rfl) rfl rfl ?_
      refine lm_val 7 (by kernel_rfl) (fun w1 c1 => (op_assign (v := .int .i64 _) rfl)) ?_
      refine lm_nil ?_
      refine xm_next ?_
      refine cm_ret ?_
      exact xm_retCT rfl (by kernel_rfl) (show _ = Value.pointer (some ⟨_, 0, none⟩) from rfl) (by kernel_rfl) (fun w1 c1 => c1.cells 0 (ds := [.int .i64 _, .int .i64 _]) rfl rfl) (by kernel_rfl) (show _ = Value.int .i64 _ from rfl) fun w1 c1 => ⟨(), rfl, hsub [] (by kernel_rfl) rfl w1 c1⟩
end Go.Proofs.Ytkepegnnkmmefaa
