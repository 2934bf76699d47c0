/- Models of functions, and that the code follows them. Written by deco.py. -/
import Derived.Test.YtljogldcejcikaaGreatZEmp1
namespace Go.Proofs.YtljogldcejcikaaGreat
open Go.RowKit

/-- emptying.within -/
def m_emptying_within (_N : Nat) (p0 : Int) (p1 : Int) (p2 : Int) : Option (Bool) :=
 some (((decide (p1 ≤ p0)) && (decide (p0 ≤ p2))))
set_option maxRecDepth 20000 in
theorem m_emptying_within_ok (N : Nat) (w0 : World) (p0 : Int) (p1 : Int) (p2 : Int)   (r : Bool) (hr : m_emptying_within N p0 p1 p2 = some r) :
  Calls Tryz.prog 67 [.int .i64 p0, .int .i64 p1, .int .i64 p2].toArray w0 fun x w1 => ∃ u, x = .returned ((fun (r : Bool) (_u : Unit) => .bool r) r u) ∧ Hs w0 ((fun (_r : Bool) (_u : Unit) => []) r u) w1 := by
 refine calls_cm (n := 15) (R := fun r x w1 => ∃ u, x = .returned ((fun (r : Bool) (_u : Unit) => .bool r) r u) ∧ Hs w0 ((fun (_r : Bool) (_u : Unit) => []) r u) w1) Tryz.func67 rfl rfl (Nat.le_of_ble_eq_true rfl) ?_ r hr
 unfold m_emptying_within
 refine cq ?_
 refine cr ?_
 refine lv 6 (by kernel_rfl) (fun w1 c1 => (oa (v := .bool false) rfl)) ?_
 refine ln ?_
 refine xn ?_
 refine cq ?_
 refine cm_cutE [(6, .bool ((decide (p1 ≤ p0)) && (decide (p0 ≤ p2))))] ?_ ?_
 ·skip
  refine wv 7 (by kernel_rfl) (fun w1 c1 => (om (v := .int .i64 _) rfl)) ?_
  refine wv 8 (by kernel_rfl) (fun w1 c1 => (om (v := .int .i64 _) rfl)) ?_
  refine wq_dec 9 (by kernel_rfl) (fun w1 c1 => (op_geq rfl rfl)) (fun h5 => ?_) (fun h5 => ?_)
  ·skip
   refine wv 10 (by kernel_rfl) (fun w1 c1 => (om (v := .bool true) rfl)) ?_
   refine wv 11 (by kernel_rfl) (fun w1 c1 => (om (v := .int .i64 _) rfl)) ?_
   refine wv 12 (by kernel_rfl) (fun w1 c1 => (om (v := .int .i64 _) rfl)) ?_
   refine wv 13 (by kernel_rfl) (fun w1 c1 => (op_leq rfl rfl)) ?_
   refine wv 14 (by kernel_rfl) (fun w1 c1 => (opt (v := .bool _) rfl rfl)) ?_
   refine wv 6 (by kernel_rfl) (fun w1 c1 => (oa (v := .bool _) rfl)) ?_
   exact leaf_q (sub_out 9 _ rfl (by kernel_rfl) ⟨(congrArg Value.bool (by rw [decide_eq_true h5] <;> rfl)), trivial⟩)
  ·skip
   refine wv 10 (by kernel_rfl) (fun w1 c1 => (om (v := .bool false) rfl)) ?_
   refine wk 11 (by kernel_rfl) ?_
   refine wk 12 (by kernel_rfl) ?_
   refine wk 13 (by kernel_rfl) ?_
   refine wv 14 (by kernel_rfl) (fun w1 c1 => (opf (v := .bool false) rfl rfl)) ?_
   refine wv 6 (by kernel_rfl) (fun w1 c1 => (oa (v := .bool false) rfl)) ?_
   exact leaf_q (sub_out 9 _ rfl (by kernel_rfl) ⟨(congrArg Value.bool (by rw [decide_eq_false h5] <;> rfl)), trivial⟩)
 refine xn ?_
 refine cm_ret ?_
 exact xm_retT rfl (by kernel_rfl) (show _ = Value.bool _ from rfl) fun w1 c1 => ⟨(), rfl, hsub [] (by kernel_rfl) rfl w1 c1⟩
/-- emptying.one -/
def m_emptying_one (N : Nat) (p0 : ApiEmptying) (p1 : Int) (p2 : Int) : Option (Int) :=
 Option.bind (m_emptying_within N p0.ID (1 : Int) (1000000 : Int)) fun r6 => (if (!r6) = true then
  some ((1 : Int))
 else
  (if ((((decide (p0.Container < 0)) || (decide (p1 ≤ p0.Container))) || (decide (p0.Vehicle < 0))) || (decide (p2 ≤ p0.Vehicle))) = true then
   some ((7 : Int))
  else
   Option.bind (m_emptying_within N p0.At (0 : Int) (3155759999 : Int)) fun r13 => (if ((((!r13) || (decide (p0.Mass.Lo < 0))) || (decide (p0.Mass.Hi < p0.Mass.Lo))) || (decide (1073741824 < p0.Mass.Hi))) = true then
    some ((1 : Int))
   else
    some ((0 : Int)))))
set_option maxHeartbeats 2000000 in
set_option maxRecDepth 20000 in
theorem m_emptying_one_ok (N : Nat) (w0 : World) (p0 : ApiEmptying) (p1 : Int) (p2 : Int)   (r : Int) (hr : m_emptying_one N p0 p1 p2 = some r) :
  Calls Tryz.prog 52 [.agg #[.int .i64 p0.ID, .int .i64 p0.Container, .int .i64 p0.Vehicle, .int .i64 p0.At, .int .i64 p0.Mass.Lo, .int .i64 p0.Mass.Hi, .bool p0.Void], .int .i64 p1, .int .i64 p2].toArray w0 fun x w1 => ∃ u, x = .returned ((fun (r : Int) (_u : Unit) => .int .i64 r) r u) ∧ Hs w0 ((fun (_r : Int) (_u : Unit) => []) r u) w1 := by
 refine calls_cm (n := 59) (R := fun r x w1 => ∃ u, x = .returned ((fun (r : Int) (_u : Unit) => .int .i64 r) r u) ∧ Hs w0 ((fun (_r : Int) (_u : Unit) => []) r u) w1) Tryz.func52 rfl rfl (Nat.le_of_ble_eq_true rfl) ?_ r hr
 unfold m_emptying_one
 refine cq ?_
 refine cr ?_
 refine lm_box 3 [.int .i64 _, .int .i64 _, .int .i64 _, .int .i64 _, .int .i64 _, .int .i64 _, .bool _] (by kernel_rfl) rfl ?_
 intro b5
 refine lv 6 (by kernel_rfl) (fun w1 c1 => (oa (v := .int .i64 _) rfl)) ?_
 refine ln ?_
 refine xn ?_
 refine cq ?_
 refine cm_block ?_
 refine cq ?_
 refine cr ?_
 refine lv 8 (by kernel_rfl) (fun w1 c1 => (oF (m := 0) (k := 0) rfl (by kernel_rfl) rfl)) ?_
 refine lv 9 (by kernel_rfl) (fun w1 c1 => (ol rfl (by kernel_rfl) (c1.cell 0 (u := .int .i64 _) rfl rfl))) ?_
 refine lm_call 10 (V := (fun (r : Bool) (_u : Unit) => .bool r)) (HR := (fun (_r : Bool) (_u : Unit) => [])) (by kernel_rfl) (fun w1 => op_call (by kernel_rfl)) (fun r1 hr1 w1 c1 => m_emptying_within_ok N w1 p0.ID (1 : Int) (1000000 : Int)  r1 hr1) ?_
 intro r6 u7
 refine lv 11 (by kernel_rfl) (fun w1 c1 => (op_not rfl)) ?_
 refine lv 7 (by kernel_rfl) (fun w1 c1 => (oa (v := .bool _) rfl)) ?_
 refine ln ?_
 refine xn ?_
 refine cm_condB (by kernel_rfl) rfl (fun h8 => ?_) (fun h8 => ?_)
 ·skip
  refine cq ?_
  refine cr ?_
  refine lv 6 (by kernel_rfl) (fun w1 c1 => (oa (v := .int .i64 _) rfl)) ?_
  refine ln ?_
  refine xn ?_
  refine cm_ret ?_
  refine xm_inR ?_
  refine xm_thenR ?_
  exact xm_retT rfl (by kernel_rfl) (show _ = Value.int .i64 _ from rfl) fun w1 c1 => ⟨(), rfl, hsub [] (by kernel_rfl) rfl w1 c1⟩
 ·skip
  refine cq ?_
  refine cm_cutE [(12, .bool ((((decide (p0.Container < 0)) || (decide (p1 ≤ p0.Container))) || (decide (p0.Vehicle < 0))) || (decide (p2 ≤ p0.Vehicle))))] ?_ ?_
  ·skip
   refine wv 13 (by kernel_rfl) (fun w1 c1 => (oF (m := 1) (k := 1) rfl (by kernel_rfl) rfl)) ?_
   refine wv 14 (by kernel_rfl) (fun w1 c1 => (ol rfl (by kernel_rfl) (c1.cell 0 (u := .int .i64 _) rfl rfl))) ?_
   refine wq_dec 15 (by kernel_rfl) (fun w1 c1 => (op_lss rfl rfl)) (fun h9 => ?_) (fun h9 => ?_)
   ·skip
    refine wv 16 (by kernel_rfl) (fun w1 c1 => (om (v := .bool true) rfl)) ?_
    refine wk 17 (by kernel_rfl) ?_
    refine wk 18 (by kernel_rfl) ?_
    refine wk 19 (by kernel_rfl) ?_
    refine wk 20 (by kernel_rfl) ?_
    refine wv 21 (by kernel_rfl) (fun w1 c1 => (opt (v := .bool true) rfl rfl)) ?_
    refine wv 22 (by kernel_rfl) (fun w1 c1 => (om (v := .bool true) rfl)) ?_
    refine wk 23 (by kernel_rfl) ?_
    refine wk 24 (by kernel_rfl) ?_
    refine wk 25 (by kernel_rfl) ?_
    refine wv 26 (by kernel_rfl) (fun w1 c1 => (opt (v := .bool true) rfl rfl)) ?_
    refine wv 27 (by kernel_rfl) (fun w1 c1 => (om (v := .bool true) rfl)) ?_
    refine wk 28 (by kernel_rfl) ?_
    refine wk 29 (by kernel_rfl) ?_
    refine wk 30 (by kernel_rfl) ?_
    refine wk 31 (by kernel_rfl) ?_
    refine wv 32 (by kernel_rfl) (fun w1 c1 => (opt (v := .bool true) rfl rfl)) ?_
    refine wv 12 (by kernel_rfl) (fun w1 c1 => (oa (v := .bool true) rfl)) ?_
    exact leaf_q (sub_out 21 _ rfl (by kernel_rfl) ⟨(congrArg Value.bool (by rw [decide_eq_true h9] <;> rfl)), trivial⟩)
   ·skip
    refine wv 16 (by kernel_rfl) (fun w1 c1 => (om (v := .bool false) rfl)) ?_
    refine wv 17 (by kernel_rfl) (fun w1 c1 => (oF (m := 1) (k := 1) rfl (by kernel_rfl) rfl)) ?_
    refine wv 18 (by kernel_rfl) (fun w1 c1 => (ol rfl (by kernel_rfl) (c1.cell 0 (u := .int .i64 _) rfl rfl))) ?_
    refine wv 19 (by kernel_rfl) (fun w1 c1 => (om (v := .int .i64 _) rfl)) ?_
    refine wq_dec 20 (by kernel_rfl) (fun w1 c1 => (op_geq rfl rfl)) (fun h10 => ?_) (fun h10 => ?_)
    ·skip
     refine wv 21 (by kernel_rfl) (fun w1 c1 => (opf (v := .bool true) rfl rfl)) ?_
     refine wv 22 (by kernel_rfl) (fun w1 c1 => (om (v := .bool true) rfl)) ?_
     refine wk 23 (by kernel_rfl) ?_
     refine wk 24 (by kernel_rfl) ?_
     refine wk 25 (by kernel_rfl) ?_
     refine wv 26 (by kernel_rfl) (fun w1 c1 => (opt (v := .bool true) rfl rfl)) ?_
     refine wv 27 (by kernel_rfl) (fun w1 c1 => (om (v := .bool true) rfl)) ?_
     refine wk 28 (by kernel_rfl) ?_
     refine wk 29 (by kernel_rfl) ?_
     refine wk 30 (by kernel_rfl) ?_
     refine wk 31 (by kernel_rfl) ?_
     refine wv 32 (by kernel_rfl) (fun w1 c1 => (opt (v := .bool true) rfl rfl)) ?_
     refine wv 12 (by kernel_rfl) (fun w1 c1 => (oa (v := .bool true) rfl)) ?_
     exact leaf_q (sub_out 21 _ rfl (by kernel_rfl) ⟨(congrArg Value.bool (by rw [decide_eq_false h9, decide_eq_true h10] <;> rfl)), trivial⟩)
    ·skip
     refine wv 21 (by kernel_rfl) (fun w1 c1 => (opf (v := .bool false) rfl rfl)) ?_
     refine wv 22 (by kernel_rfl) (fun w1 c1 => (om (v := .bool false) rfl)) ?_
     refine wv 23 (by kernel_rfl) (fun w1 c1 => (oF (m := 2) (k := 2) rfl (by kernel_rfl) rfl)) ?_
     refine wv 24 (by kernel_rfl) (fun w1 c1 => (ol rfl (by kernel_rfl) (c1.cell 0 (u := .int .i64 _) rfl rfl))) ?_
     refine wq_dec 25 (by kernel_rfl) (fun w1 c1 => (op_lss rfl rfl)) (fun h11 => ?_) (fun h11 => ?_)
     ·skip
      refine wv 26 (by kernel_rfl) (fun w1 c1 => (opf (v := .bool true) rfl rfl)) ?_
      refine wv 27 (by kernel_rfl) (fun w1 c1 => (om (v := .bool true) rfl)) ?_
      refine wk 28 (by kernel_rfl) ?_
      refine wk 29 (by kernel_rfl) ?_
      refine wk 30 (by kernel_rfl) ?_
      refine wk 31 (by kernel_rfl) ?_
      refine wv 32 (by kernel_rfl) (fun w1 c1 => (opt (v := .bool true) rfl rfl)) ?_
      refine wv 12 (by kernel_rfl) (fun w1 c1 => (oa (v := .bool true) rfl)) ?_
      exact leaf_q (sub_out 21 _ rfl (by kernel_rfl) ⟨(congrArg Value.bool (by rw [decide_eq_false h9, decide_eq_false h10, decide_eq_true h11] <;> rfl)), trivial⟩)
     ·skip
      refine wv 26 (by kernel_rfl) (fun w1 c1 => (opf (v := .bool false) rfl rfl)) ?_
      refine wv 27 (by kernel_rfl) (fun w1 c1 => (om (v := .bool false) rfl)) ?_
      refine wv 28 (by kernel_rfl) (fun w1 c1 => (oF (m := 2) (k := 2) rfl (by kernel_rfl) rfl)) ?_
      refine wv 29 (by kernel_rfl) (fun w1 c1 => (ol rfl (by kernel_rfl) (c1.cell 0 (u := .int .i64 _) rfl rfl))) ?_
      refine wv 30 (by kernel_rfl) (fun w1 c1 => (om (v := .int .i64 _) rfl)) ?_
      refine wv 31 (by kernel_rfl) (fun w1 c1 => (op_geq rfl rfl)) ?_
      refine wv 32 (by kernel_rfl) (fun w1 c1 => (opf (v := .bool _) rfl rfl)) ?_
      refine wv 12 (by kernel_rfl) (fun w1 c1 => (oa (v := .bool _) rfl)) ?_
      exact leaf_q (sub_out 21 _ rfl (by kernel_rfl) ⟨(congrArg Value.bool (by rw [decide_eq_false h9, decide_eq_false h10, decide_eq_false h11] <;> rfl)), trivial⟩)
  refine xn ?_
  refine cm_condB (by kernel_rfl) rfl (fun h12 => ?_) (fun h12 => ?_)
  ·skip
   refine cq ?_
   refine cr ?_
   refine lv 6 (by kernel_rfl) (fun w1 c1 => (oa (v := .int .i64 _) rfl)) ?_
   refine ln ?_
   refine xn ?_
   refine cm_ret ?_
   refine xm_inR ?_
   refine xm_thenR ?_
   exact xm_retT rfl (by kernel_rfl) (show _ = Value.int .i64 _ from rfl) fun w1 c1 => ⟨(), rfl, hsub [] (by kernel_rfl) rfl w1 c1⟩
  ·skip
   refine cq ?_
   refine cm_bind fun r13 h14 => ?_
   refine cm_cutE [(33, .bool ((((!r13) || (decide (p0.Mass.Lo < 0))) || (decide (p0.Mass.Hi < p0.Mass.Lo))) || (decide (1073741824 < p0.Mass.Hi))))] ?_ ?_
   ·skip
    refine wv 34 (by kernel_rfl) (fun w1 c1 => (oF (m := 3) (k := 3) rfl (by kernel_rfl) rfl)) ?_
    refine wv 35 (by kernel_rfl) (fun w1 c1 => (ol rfl (by kernel_rfl) (c1.cell 0 (u := .int .i64 _) rfl rfl))) ?_
    refine wq_callb 36 (by kernel_rfl) (fun w1 c1 => op_call (by kernel_rfl)) (fun w1 c1 => (m_emptying_within_ok N w1 p0.At (0 : Int) (3155759999 : Int)  r13 h14).mono (fun _ _ ⟨_, hx, hu⟩ => ⟨hx, c1.call hu⟩)) (fun h15 => ?_) (fun h15 => ?_)
    ·skip
     refine wv 37 (by kernel_rfl) (fun w1 c1 => (op_nott rfl)) ?_
     refine wv 38 (by kernel_rfl) (fun w1 c1 => (om (v := .bool false) rfl)) ?_
     refine wv 39 (by kernel_rfl) (fun w1 c1 => (oF (m := 4) (k := 4) rfl (by kernel_rfl) rfl)) ?_
     refine wv 40 (by kernel_rfl) (fun w1 c1 => (oF (m := 0) (k := 4) rfl (by kernel_rfl) rfl)) ?_
     refine wv 41 (by kernel_rfl) (fun w1 c1 => (ol rfl (by kernel_rfl) (c1.cell 0 (u := .int .i64 _) rfl rfl))) ?_
     refine wq_dec 42 (by kernel_rfl) (fun w1 c1 => (op_lss rfl rfl)) (fun h16 => ?_) (fun h16 => ?_)
     ·skip
      refine wv 43 (by kernel_rfl) (fun w1 c1 => (opf (v := .bool true) rfl rfl)) ?_
      refine wv 44 (by kernel_rfl) (fun w1 c1 => (om (v := .bool true) rfl)) ?_
      refine wk 45 (by kernel_rfl) ?_
      refine wk 46 (by kernel_rfl) ?_
      refine wk 47 (by kernel_rfl) ?_
      refine wk 48 (by kernel_rfl) ?_
      refine wk 49 (by kernel_rfl) ?_
      refine wk 50 (by kernel_rfl) ?_
      refine wk 51 (by kernel_rfl) ?_
      refine wv 52 (by kernel_rfl) (fun w1 c1 => (opt (v := .bool true) rfl rfl)) ?_
      refine wv 53 (by kernel_rfl) (fun w1 c1 => (om (v := .bool true) rfl)) ?_
      refine wk 54 (by kernel_rfl) ?_
      refine wk 55 (by kernel_rfl) ?_
      refine wk 56 (by kernel_rfl) ?_
      refine wk 57 (by kernel_rfl) ?_
      refine wv 58 (by kernel_rfl) (fun w1 c1 => (opt (v := .bool true) rfl rfl)) ?_
      refine wv 33 (by kernel_rfl) (fun w1 c1 => (oa (v := .bool true) rfl)) ?_
      exact leaf_q (sub_out 26 _ rfl (by kernel_rfl) ⟨(congrArg Value.bool (by rw [h15, decide_eq_true h16] <;> rfl)), trivial⟩)
     ·skip
      refine wv 43 (by kernel_rfl) (fun w1 c1 => (opf (v := .bool false) rfl rfl)) ?_
      refine wv 44 (by kernel_rfl) (fun w1 c1 => (om (v := .bool false) rfl)) ?_
      refine wv 45 (by kernel_rfl) (fun w1 c1 => (oF (m := 4) (k := 4) rfl (by kernel_rfl) rfl)) ?_
      refine wv 46 (by kernel_rfl) (fun w1 c1 => (oF (m := 0) (k := 4) rfl (by kernel_rfl) rfl)) ?_
      refine wv 47 (by kernel_rfl) (fun w1 c1 => (ol rfl (by kernel_rfl) (c1.cell 0 (u := .int .i64 _) rfl rfl))) ?_
      refine wv 48 (by kernel_rfl) (fun w1 c1 => (oF (m := 4) (k := 4) rfl (by kernel_rfl) rfl)) ?_
      refine wv 49 (by kernel_rfl) (fun w1 c1 => (oF (m := 1) (k := 5) rfl (by kernel_rfl) rfl)) ?_
      refine wv 50 (by kernel_rfl) (fun w1 c1 => (ol rfl (by kernel_rfl) (c1.cell 0 (u := .int .i64 _) rfl rfl))) ?_
      refine wq_dec 51 (by kernel_rfl) (fun w1 c1 => (op_gtr rfl rfl)) (fun h17 => ?_) (fun h17 => ?_)
      ·skip
       refine wv 52 (by kernel_rfl) (fun w1 c1 => (opf (v := .bool true) rfl rfl)) ?_
       refine wv 53 (by kernel_rfl) (fun w1 c1 => (om (v := .bool true) rfl)) ?_
       refine wk 54 (by kernel_rfl) ?_
       refine wk 55 (by kernel_rfl) ?_
       refine wk 56 (by kernel_rfl) ?_
       refine wk 57 (by kernel_rfl) ?_
       refine wv 58 (by kernel_rfl) (fun w1 c1 => (opt (v := .bool true) rfl rfl)) ?_
       refine wv 33 (by kernel_rfl) (fun w1 c1 => (oa (v := .bool true) rfl)) ?_
       exact leaf_q (sub_out 26 _ rfl (by kernel_rfl) ⟨(congrArg Value.bool (by rw [h15, decide_eq_false h16, decide_eq_true h17] <;> rfl)), trivial⟩)
      ·skip
       refine wv 52 (by kernel_rfl) (fun w1 c1 => (opf (v := .bool false) rfl rfl)) ?_
       refine wv 53 (by kernel_rfl) (fun w1 c1 => (om (v := .bool false) rfl)) ?_
       refine wv 54 (by kernel_rfl) (fun w1 c1 => (oF (m := 4) (k := 4) rfl (by kernel_rfl) rfl)) ?_
       refine wv 55 (by kernel_rfl) (fun w1 c1 => (oF (m := 1) (k := 5) rfl (by kernel_rfl) rfl)) ?_
       refine wv 56 (by kernel_rfl) (fun w1 c1 => (ol rfl (by kernel_rfl) (c1.cell 0 (u := .int .i64 _) rfl rfl))) ?_
       refine wv 57 (by kernel_rfl) (fun w1 c1 => (op_gtr rfl rfl)) ?_
       refine wv 58 (by kernel_rfl) (fun w1 c1 => (opf (v := .bool _) rfl rfl)) ?_
       refine wv 33 (by kernel_rfl) (fun w1 c1 => (oa (v := .bool _) rfl)) ?_
       exact leaf_q (sub_out 26 _ rfl (by kernel_rfl) ⟨(congrArg Value.bool (by rw [h15, decide_eq_false h16, decide_eq_false h17] <;> rfl)), trivial⟩)
    ·skip
     refine wv 37 (by kernel_rfl) (fun w1 c1 => (op_notf rfl)) ?_
     refine wv 38 (by kernel_rfl) (fun w1 c1 => (om (v := .bool true) rfl)) ?_
     refine wk 39 (by kernel_rfl) ?_
     refine wk 40 (by kernel_rfl) ?_
     refine wk 41 (by kernel_rfl) ?_
     refine wk 42 (by kernel_rfl) ?_
     refine wv 43 (by kernel_rfl) (fun w1 c1 => (opt (v := .bool true) rfl rfl)) ?_
     refine wv 44 (by kernel_rfl) (fun w1 c1 => (om (v := .bool true) rfl)) ?_
     refine wk 45 (by kernel_rfl) ?_
     refine wk 46 (by kernel_rfl) ?_
     refine wk 47 (by kernel_rfl) ?_
     refine wk 48 (by kernel_rfl) ?_
     refine wk 49 (by kernel_rfl) ?_
     refine wk 50 (by kernel_rfl) ?_
     refine wk 51 (by kernel_rfl) ?_
     refine wv 52 (by kernel_rfl) (fun w1 c1 => (opt (v := .bool true) rfl rfl)) ?_
     refine wv 53 (by kernel_rfl) (fun w1 c1 => (om (v := .bool true) rfl)) ?_
     refine wk 54 (by kernel_rfl) ?_
     refine wk 55 (by kernel_rfl) ?_
     refine wk 56 (by kernel_rfl) ?_
     refine wk 57 (by kernel_rfl) ?_
     refine wv 58 (by kernel_rfl) (fun w1 c1 => (opt (v := .bool true) rfl rfl)) ?_
     refine wv 33 (by kernel_rfl) (fun w1 c1 => (oa (v := .bool true) rfl)) ?_
     exact leaf_q (sub_out 26 _ rfl (by kernel_rfl) ⟨(congrArg Value.bool (by rw [h15] <;> rfl)), trivial⟩)
   refine xn ?_
   refine cm_condB (by kernel_rfl) rfl (fun h18 => ?_) (fun h18 => ?_)
   ·skip
    refine cq ?_
    refine cr ?_
    refine lv 6 (by kernel_rfl) (fun w1 c1 => (oa (v := .int .i64 _) rfl)) ?_
    refine ln ?_
    refine xn ?_
    refine cm_ret ?_
    refine xm_inR ?_
    refine xm_thenR ?_
    exact xm_retT rfl (by kernel_rfl) (show _ = Value.int .i64 _ from rfl) fun w1 c1 => ⟨(), rfl, hsub [] (by kernel_rfl) rfl w1 c1⟩
   ·skip
    refine cm_skip ?_
    refine xm_inN ?_
    refine xn ?_
    refine cq ?_
    refine cr ?_
    refine lv 6 (by kernel_rfl) (fun w1 c1 => (oa (v := .int .i64 _) rfl)) ?_
    refine ln ?_
    refine xn ?_
    refine cm_ret ?_
    exact xm_retT rfl (by kernel_rfl) (show _ = Value.int .i64 _ from rfl) fun w1 c1 => ⟨(), rfl, hsub [] (by kernel_rfl) rfl w1 c1⟩
/-- emptying.Check -/
def m_emptying_Check (N : Nat) (p0 : (List ApiEmptying)) (p1 : Int) (p2 : Int) : Option (Int) :=
 (if 512 < (List.length p0 : Int) then
  some ((8 : Int))
 else
  (andThen
   (loopM (fun (s53 : Int) =>
    (if s53 < (List.length p0 : Int) then
     ck ((0 : Int) ≤ s53 ∧ s53 < (List.length p0 : Int)) (
      Option.bind (m_emptying_one N (ix p0 s53) p1 p2) fun r58 => (if r58 ≠ 0 then
       some (.done (.done (r58)))
      else
       ck (I64 (s53 + (1 : Int))) (
        some (.next (s53 + (1 : Int))))))
    else
     some (.done (.next ())))) N (0 : Int))
  fun (_s33 : Unit) =>
   (andThen
    (loopM (fun (s110 : (List (Int × Bool)) × Int) =>
     (if s110.2 < (List.length p0 : Int) then
      ck ((0 : Int) ≤ s110.2 ∧ s110.2 < (List.length p0 : Int)) (
       ck (I64 ((ix p0 s110.2).ID)) (
        (if (Option.getD (mget s110.1 ((ix p0 s110.2).ID)) false) = true then
         some (.done (.done ((6 : Int))))
        else
         ck (I64 ((ix p0 s110.2).ID)) (
          ck (I64 (s110.2 + (1 : Int))) (
           some (.next ((mput s110.1 ((ix p0 s110.2).ID) true), (s110.2 + (1 : Int)))))))))
     else
      some (.done (.next ())))) N (([] : (List (Int × Bool))), (0 : Int)))
   fun (_s90 : Unit) =>
    some ((0 : Int)))))
set_option maxHeartbeats 2000000 in
set_option maxRecDepth 20000 in
theorem m_emptying_Check_ok (N : Nat) (w0 : World) (p0 : (List ApiEmptying)) (p1 : Int) (p2 : Int) (A_p0 : Option Addr) (n_p0 c_p0 : Nat) (hr_p0 : RdE w0 7 encApiEmptying A_p0 p0) (hz_p0 : SW A_p0 n_p0 c_p0 (List.length p0)) (r : Int) (hr : m_emptying_Check N p0 p1 p2 = some r) :
  Calls Tryz.prog 29 [.slice A_p0 n_p0 c_p0, .int .i64 p1, .int .i64 p2].toArray w0 fun x w1 => ∃ u, x = .returned ((fun (r : Int) (_u : Unit) => .int .i64 r) r u) ∧ Hs w0 ((fun (_r : Int) (_u : Unit) => []) r u) w1 := by
 refine calls_cm (n := 45) (R := fun r x w1 => ∃ u, x = .returned ((fun (r : Int) (_u : Unit) => .int .i64 r) r u) ∧ Hs w0 ((fun (_r : Int) (_u : Unit) => []) r u) w1) Tryz.func29 rfl rfl (Nat.le_of_ble_eq_true rfl) ?_ r hr
 unfold m_emptying_Check
 refine cq ?_
 refine cr ?_
 refine lv 6 (by kernel_rfl) (fun w1 c1 => (oa (v := .int .i64 _) rfl)) ?_
 refine ln ?_
 refine xn ?_
 refine cq ?_
 refine cq ?_
 refine cr ?_
 refine lv 13 (by kernel_rfl) (fun w1 c1 => (om (v := .slice _ _ _) rfl)) ?_
 refine lv 14 (by kernel_rfl) (fun w1 c1 => (op_lenN rfl (by kernel_rfl) hz_p0.2.2)) ?_
 refine lv 15 (by kernel_rfl) (fun w1 c1 => (op_gtr rfl rfl)) ?_
 refine ln ?_
 refine xn ?_
 refine cm_cond (by kernel_rfl) rfl (fun h5 => ?_) (fun h5 => ?_)
 ·skip
  refine cq ?_
  refine cr ?_
  refine lv 6 (by kernel_rfl) (fun w1 c1 => (oa (v := .int .i64 _) rfl)) ?_
  refine ln ?_
  refine xn ?_
  refine cm_ret ?_
  refine xm_thenR ?_
  exact xm_retT rfl (by kernel_rfl) (show _ = Value.int .i64 _ from rfl) fun w1 c1 => ⟨(), rfl, hsub [] (by kernel_rfl) rfl w1 c1⟩
 ·skip
  refine cm_skip ?_
  refine xn ?_
  refine cm_join (σ := Unit) (ξ := Unit) (fun s33 u34 => [(0, .slice A_p0 n_p0 c_p0)]) (fun s33 u34 => []) ?_ ?_
  ·skip
   refine cq ?_
   refine cr ?_
   refine lv 16 (by kernel_rfl) (fun w1 c1 => (om (v := .slice _ _ _) rfl)) ?_
   refine lv 17 (by kernel_rfl) (fun w1 c1 => (op_lenN rfl (by kernel_rfl) hz_p0.2.2)) ?_
   refine lv 18 (by kernel_rfl) (fun w1 c1 => (om (v := .int .i64 _) rfl)) ?_
   refine ln ?_
   refine xn ?_
   refine cm_block ?_
   refine cm_loop (σ := Int) (ξ := Unit) (fun s53 u54 => [(0, .slice A_p0 n_p0 c_p0), (1, .int .i64 p1), (2, .int .i64 p2), (16, .slice A_p0 n_p0 c_p0), (17, .int .i64 (List.length p0 : Int)), (18, .int .i64 s53)]) (fun s53 u54 => []) () ?_ ?_ ?_
   ·exact (sc (by kernel_rfl) rfl (sc (by kernel_rfl) rfl (sc (by kernel_rfl) rfl (sc (by kernel_rfl) rfl (sc (by kernel_rfl) rfl (sc (by kernel_rfl) rfl sub_nil))))))
   ·exact hsub [] (by kernel_rfl) rfl
   intro s53 u54
   refine cq ?_
   refine cr ?_
   refine lv 19 (by kernel_rfl) (fun w1 c1 => (op_lss rfl rfl)) ?_
   refine ln ?_
   refine xn ?_
   refine cq ?_
   refine cm_cond (by kernel_rfl) rfl (fun h55 => ?_) (fun h55 => ?_)
   ·skip
    refine cm_skip ?_
    refine xn ?_
    refine cq ?_
    refine cm_block ?_
    refine cq ?_
    refine cr ?_
    refine lm_ck (fun h56 => ?_)
    refine lv 20 (by kernel_rfl) (fun w1 c1 => (op_indexA 7 rfl rfl (by kernel_rfl) ((hr_p0.old c1).addr h56.1 h56.2) hz_p0.2.2 h56.1 h56.2)) ?_
    refine lv 21 (by kernel_rfl) (fun w1 c1 => (op_loadR [.int .i64 ((ix p0 s53).ID), .int .i64 ((ix p0 s53).Container), .int .i64 ((ix p0 s53).Vehicle), .int .i64 ((ix p0 s53).At), .int .i64 ((ix p0 s53).Mass.Lo), .int .i64 ((ix p0 s53).Mass.Hi), .bool ((ix p0 s53).Void)] rfl (by kernel_rfl) ((hr_p0.old c1).row h56.1 h56.2))) ?_
    refine lm_alloc 8 [.int .i64 0, .int .i64 0, .int .i64 0, .int .i64 0, .int .i64 0, .int .i64 0, .bool false] (v := .agg #[.int .i64 0, .int .i64 0, .int .i64 0, .int .i64 0, .int .i64 0, .int .i64 0, .bool false]) (by kernel_rfl) (by kernel_rfl) rfl ?_
    intro b57
    refine lm_storeA 0 [.int .i64 _, .int .i64 _, .int .i64 _, .int .i64 _, .int .i64 _, .int .i64 _, .bool _] [_, _, _, _, _, _, _] (H' := [blkE _ _ [_, _, _, _, _, _, _]]) (by kernel_rfl) rfl rfl (by kernel_rfl) rfl rfl (by kernel_rfl) rfl rfl ?_
    refine ln ?_
    refine xn ?_
    refine cq ?_
    refine cr ?_
    refine lv 22 (by kernel_rfl) (fun w1 c1 => (op_loadR [.int .i64 _, .int .i64 _, .int .i64 _, .int .i64 _, .int .i64 _, .int .i64 _, .bool _] rfl (by kernel_rfl) (c1.cells 0 rfl rfl))) ?_
    refine lv 23 (by kernel_rfl) (fun w1 c1 => (om (v := .int .i64 _) rfl)) ?_
    refine lv 24 (by kernel_rfl) (fun w1 c1 => (om (v := .int .i64 _) rfl)) ?_
    refine lm_call 25 (V := (fun (r : Int) (_u : Unit) => .int .i64 r)) (HR := (fun (_r : Int) (_u : Unit) => [])) (by kernel_rfl) (fun w1 => op_call (by kernel_rfl)) (fun r1 hr1 w1 c1 => m_emptying_one_ok N w1 (ix p0 s53) p1 p2  r1 hr1) ?_
    intro r58 u59
    refine lv 9 (by kernel_rfl) (fun w1 c1 => (oa (v := .int .i64 _) rfl)) ?_
    refine ln ?_
    refine xn ?_
    refine cq ?_
    refine cr ?_
    refine lv 26 (by kernel_rfl) (fun w1 c1 => (om (v := .int .i64 _) rfl)) ?_
    refine lv 27 (by kernel_rfl) (fun w1 c1 => (op_neq rfl rfl)) ?_
    refine ln ?_
    refine xn ?_
    refine cm_cond (by kernel_rfl) rfl (fun h60 => ?_) (fun h60 => ?_)
    ·skip
     refine cq ?_
     refine cr ?_
     refine lv 28 (by kernel_rfl) (fun w1 c1 => (om (v := .int .i64 _) rfl)) ?_
     refine lv 6 (by kernel_rfl) (fun w1 c1 => (oa (v := .int .i64 _) rfl)) ?_
     refine ln ?_
     refine xn ?_
     refine cm_ret ?_
     refine xm_inR ?_
     refine xm_thenR ?_
     refine xm_lret ?_
     refine xm_inR ?_
     refine xm_lret ?_
     exact xm_retT rfl (by kernel_rfl) (show _ = Value.int .i64 _ from rfl) fun w1 c1 => ⟨(), rfl, hsub [] (by kernel_rfl) rfl w1 c1⟩
    ·skip
     refine cm_skip ?_
     refine xm_inN ?_
     refine xn ?_
     refine cr ?_
     refine lm_ck (fun h61 => ?_)
     refine lv 29 (by kernel_rfl) (fun w1 c1 => (op_add rfl rfl h61)) ?_
     refine lv 18 (by kernel_rfl) (fun w1 c1 => (om (v := .int .i64 _) rfl)) ?_
     refine ln ?_
     exact xm_lnext () (sc (by kernel_rfl) rfl (sc (by kernel_rfl) rfl (sc (by kernel_rfl) rfl (sc (by kernel_rfl) rfl (sc (by kernel_rfl) rfl (sc (by kernel_rfl) rfl sub_nil)))))) (hsub [] (by kernel_rfl) rfl)
   ·skip
    refine cm_exit ?_
    refine xm_thenE ?_
    refine xm_lexit ?_
    refine xm_here ?_
    exact xm_lnext () (sc (by kernel_rfl) rfl sub_nil) (hsub [] (by kernel_rfl) rfl)
  intro s33 u34
  refine cq ?_
  refine cr ?_
  refine lm_makeMap (κ := Int) (α := Bool) 30 3 (Value.int .i64) Value.bool (by kernel_rfl) ?_
  intro b62
  refine lv 10 (by kernel_rfl) (fun w1 c1 => (oa (v := .map (some _)) rfl)) ?_
  refine ln ?_
  refine xn ?_
  refine cm_join (σ := Unit) (ξ := Unit) (fun s90 u91 => []) (fun s90 u91 => []) ?_ ?_
  ·skip
   refine cq ?_
   refine cr ?_
   refine lv 31 (by kernel_rfl) (fun w1 c1 => (om (v := .slice _ _ _) rfl)) ?_
   refine lv 32 (by kernel_rfl) (fun w1 c1 => (op_lenN rfl (by kernel_rfl) hz_p0.2.2)) ?_
   refine lv 33 (by kernel_rfl) (fun w1 c1 => (om (v := .int .i64 _) rfl)) ?_
   refine ln ?_
   refine xn ?_
   refine cm_block ?_
   refine cm_loop (σ := (List (Int × Bool)) × Int) (ξ := Unit) (fun s110 u111 => [(10, .map (some b62)), (31, .slice A_p0 n_p0 c_p0), (32, .int .i64 (List.length p0 : Int)), (33, .int .i64 s110.2)]) (fun s110 u111 => [mapE Tryz.prog 3 (Value.int .i64) Value.bool b62 s110.1]) () ?_ ?_ ?_
   ·exact (sc (by kernel_rfl) rfl (sc (by kernel_rfl) rfl (sc (by kernel_rfl) rfl (sc (by kernel_rfl) rfl sub_nil))))
   ·exact hsub [0] (by kernel_rfl) rfl
   intro s110 u111
   refine cq ?_
   refine cr ?_
   refine lv 34 (by kernel_rfl) (fun w1 c1 => (op_lss rfl rfl)) ?_
   refine ln ?_
   refine xn ?_
   refine cq ?_
   refine cm_cond (by kernel_rfl) rfl (fun h112 => ?_) (fun h112 => ?_)
   ·skip
    refine cm_skip ?_
    refine xn ?_
    refine cq ?_
    refine cm_block ?_
    refine cq ?_
    refine cr ?_
    refine lm_ck (fun h113 => ?_)
    refine lv 35 (by kernel_rfl) (fun w1 c1 => (op_indexA 7 rfl rfl (by kernel_rfl) ((hr_p0.old c1).addr h113.1 h113.2) hz_p0.2.2 h113.1 h113.2)) ?_
    refine lv 36 (by kernel_rfl) (fun w1 c1 => (op_loadR [.int .i64 ((ix p0 s110.2).ID), .int .i64 ((ix p0 s110.2).Container), .int .i64 ((ix p0 s110.2).Vehicle), .int .i64 ((ix p0 s110.2).At), .int .i64 ((ix p0 s110.2).Mass.Lo), .int .i64 ((ix p0 s110.2).Mass.Hi), .bool ((ix p0 s110.2).Void)] rfl (by kernel_rfl) ((hr_p0.old c1).row h113.1 h113.2))) ?_
    refine lm_alloc 12 [.int .i64 0, .int .i64 0, .int .i64 0, .int .i64 0, .int .i64 0, .int .i64 0, .bool false] (v := .agg #[.int .i64 0, .int .i64 0, .int .i64 0, .int .i64 0, .int .i64 0, .int .i64 0, .bool false]) (by kernel_rfl) (by kernel_rfl) rfl ?_
    intro b114
    refine lm_storeA 0 [.int .i64 _, .int .i64 _, .int .i64 _, .int .i64 _, .int .i64 _, .int .i64 _, .bool _] [_, _, _, _, _, _, _] (H' := [blkE _ _ [_, _, _, _, _, _, _], _]) (by kernel_rfl) rfl rfl (by kernel_rfl) rfl rfl (by kernel_rfl) rfl rfl ?_
    refine ln ?_
    refine xn ?_
    refine cq ?_
    refine cq ?_
    refine cr ?_
    refine lv 37 (by kernel_rfl) (fun w1 c1 => (om (v := .map (some _)) rfl)) ?_
    refine lv 38 (by kernel_rfl) (fun w1 c1 => (oF (m := 0) (k := 0) rfl (by kernel_rfl) rfl)) ?_
    refine lv 39 (by kernel_rfl) (fun w1 c1 => (ol rfl (by kernel_rfl) (c1.cell 0 (u := .int .i64 _) rfl rfl))) ?_
    refine lm_ck (fun h115 => ?_)
    refine lv 40 (by kernel_rfl) (fun w1 c1 => (op_lookup (κ := Int) (α := Bool) (ek := (Value.int .i64)) (ev := Value.bool) (l := s110.1) (y := ((ix p0 s110.2).ID)) false rfl rfl (Maps.int_keyed Tryz.underlying3) (ek_int .i64) (key_i64 Tryz.underlying3 h115) Tryz.underlying109 rfl (c1.map 1 rfl))) ?_
    refine ln ?_
    refine xn ?_
    refine cm_condB (by kernel_rfl) rfl (fun h116 => ?_) (fun h116 => ?_)
    ·skip
     refine cq ?_
     refine cr ?_
     refine lv 6 (by kernel_rfl) (fun w1 c1 => (oa (v := .int .i64 _) rfl)) ?_
     refine ln ?_
     refine xn ?_
     refine cm_ret ?_
     refine xm_thenR ?_
     refine xm_inR ?_
     refine xm_thenR ?_
     refine xm_lret ?_
     refine xm_inR ?_
     refine xm_lret ?_
     exact xm_retT rfl (by kernel_rfl) (show _ = Value.int .i64 _ from rfl) fun w1 c1 => ⟨(), rfl, hsub [] (by kernel_rfl) rfl w1 c1⟩
    ·skip
     refine cm_skip ?_
     refine xn ?_
     refine cr ?_
     refine lv 41 (by kernel_rfl) (fun w1 c1 => (om (v := .map (some _)) rfl)) ?_
     refine lv 42 (by kernel_rfl) (fun w1 c1 => (oF (m := 0) (k := 0) rfl (by kernel_rfl) rfl)) ?_
     refine lv 43 (by kernel_rfl) (fun w1 c1 => (ol rfl (by kernel_rfl) (c1.cell 0 (u := .int .i64 _) rfl rfl))) ?_
     refine lm_ck (fun h117 => ?_)
     refine lm_mapUpdate 1 (κ := Int) (α := Bool) (ek := (Value.int .i64)) (ev := Value.bool) (l := s110.1) (y := ((ix p0 s110.2).ID)) (a := true) (by kernel_rfl) rfl rfl rfl (Maps.int_keyed Tryz.underlying3) (ek_int .i64) (key_i64 Tryz.underlying3 h117) Tryz.underlying109 rfl rfl ?_
     refine ln ?_
     refine xm_inN ?_
     refine xn ?_
     refine cr ?_
     refine lm_ck (fun h118 => ?_)
     refine lv 44 (by kernel_rfl) (fun w1 c1 => (op_add rfl rfl h118)) ?_
     refine lv 33 (by kernel_rfl) (fun w1 c1 => (om (v := .int .i64 _) rfl)) ?_
     refine ln ?_
     exact xm_lnext () (sc (by kernel_rfl) rfl (sc (by kernel_rfl) rfl (sc (by kernel_rfl) rfl (sc (by kernel_rfl) rfl sub_nil)))) (hsub [1] (by kernel_rfl) rfl)
   ·skip
    refine cm_exit ?_
    refine xm_thenE ?_
    refine xm_lexit ?_
    refine xm_here ?_
    exact xm_lnext () sub_nil (hsub [] (by kernel_rfl) rfl)
  intro s90 u91
  refine cq ?_
  refine cr ?_
  refine lv 6 (by kernel_rfl) (fun w1 c1 => (oa (v := .int .i64 _) rfl)) ?_
  refine ln ?_
  refine xn ?_
  refine cm_ret ?_
  exact xm_retT rfl (by kernel_rfl) (show _ = Value.int .i64 _ from rfl) fun w1 c1 => ⟨(), rfl, hsub [] (by kernel_rfl) rfl w1 c1⟩
/-- cmp.isNaN -/
def m_cmp_isNaN (_N : Nat) (p0 : Int) : Option (Bool) :=
 some ((decide (p0 ≠ p0)))
set_option maxRecDepth 20000 in
theorem m_cmp_isNaN_ok (N : Nat) (w0 : World) (p0 : Int)   (r : Bool) (hr : m_cmp_isNaN N p0 = some r) :
  Calls Tryz.prog 102 [.int .i64 p0].toArray w0 fun x w1 => ∃ u, x = .returned ((fun (r : Bool) (_u : Unit) => .bool r) r u) ∧ Hs w0 ((fun (_r : Bool) (_u : Unit) => []) r u) w1 := by
 refine calls_cm (n := 6) (R := fun r x w1 => ∃ u, x = .returned ((fun (r : Bool) (_u : Unit) => .bool r) r u) ∧ Hs w0 ((fun (_r : Bool) (_u : Unit) => []) r u) w1) Tryz.func102 rfl rfl (Nat.le_of_ble_eq_true rfl) ?_ r hr
 unfold m_cmp_isNaN
 refine cq ?_
 refine cr ?_
 refine lv 2 (by kernel_rfl) (fun w1 c1 => (oa (v := .bool false) rfl)) ?_
 refine ln ?_
 refine xn ?_
 refine cq ?_
 refine cr ?_
 refine lv 3 (by kernel_rfl) (fun w1 c1 => (om (v := .int .i64 _) rfl)) ?_
 refine lv 4 (by kernel_rfl) (fun w1 c1 => (om (v := .int .i64 _) rfl)) ?_
 refine lv 5 (by kernel_rfl) (fun w1 c1 => (op_neq rfl rfl)) ?_
 refine lv 2 (by kernel_rfl) (fun w1 c1 => (oa (v := .bool _) rfl)) ?_
 refine ln ?_
 refine xn ?_
 refine cm_ret ?_
 exact xm_retT rfl (by kernel_rfl) (show _ = Value.bool _ from rfl) fun w1 c1 => ⟨(), rfl, hsub [] (by kernel_rfl) rfl w1 c1⟩
/-- cmp.Compare -/
def m_cmp_Compare (N : Nat) (p0 : Int) (p1 : Int) : Option (Int) :=
 Option.bind (m_cmp_isNaN N p0) fun r5 => Option.bind (m_cmp_isNaN N p1) fun r7 => (if r5 = true then
  (if r7 = true then
   some ((0 : Int))
  else
   some ((-1 : Int)))
 else
  (if r7 = true then
   some ((1 : Int))
  else
   (if p0 < p1 then
    some ((-1 : Int))
   else
    (if p1 < p0 then
     some ((1 : Int))
    else
     some ((0 : Int))))))
set_option maxHeartbeats 2000000 in
set_option maxRecDepth 20000 in
theorem m_cmp_Compare_ok (N : Nat) (w0 : World) (p0 : Int) (p1 : Int)   (r : Int) (hr : m_cmp_Compare N p0 p1 = some r) :
  Calls Tryz.prog 99 [.int .i64 p0, .int .i64 p1].toArray w0 fun x w1 => ∃ u, x = .returned ((fun (r : Int) (_u : Unit) => .int .i64 r) r u) ∧ Hs w0 ((fun (_r : Int) (_u : Unit) => []) r u) w1 := by
 refine calls_cm (n := 20) (R := fun r x w1 => ∃ u, x = .returned ((fun (r : Int) (_u : Unit) => .int .i64 r) r u) ∧ Hs w0 ((fun (_r : Int) (_u : Unit) => []) r u) w1) Tryz.func99 rfl rfl (Nat.le_of_ble_eq_true rfl) ?_ r hr
 unfold m_cmp_Compare
 refine cq ?_
 refine cr ?_
 refine lv 4 (by kernel_rfl) (fun w1 c1 => (oa (v := .int .i64 _) rfl)) ?_
 refine ln ?_
 refine xn ?_
 refine cq ?_
 refine cr ?_
 refine lv 7 (by kernel_rfl) (fun w1 c1 => (om (v := .int .i64 _) rfl)) ?_
 refine lm_call 8 (V := (fun (r : Bool) (_u : Unit) => .bool r)) (HR := (fun (_r : Bool) (_u : Unit) => [])) (by kernel_rfl) (fun w1 => op_call (by kernel_rfl)) (fun r1 hr1 w1 c1 => m_cmp_isNaN_ok N w1 p0  r1 hr1) ?_
 intro r5 u6
 refine lv 5 (by kernel_rfl) (fun w1 c1 => (oa (v := .bool _) rfl)) ?_
 refine ln ?_
 refine xn ?_
 refine cq ?_
 refine cr ?_
 refine lv 9 (by kernel_rfl) (fun w1 c1 => (om (v := .int .i64 _) rfl)) ?_
 refine lm_call 10 (V := (fun (r : Bool) (_u : Unit) => .bool r)) (HR := (fun (_r : Bool) (_u : Unit) => [])) (by kernel_rfl) (fun w1 => op_call (by kernel_rfl)) (fun r1 hr1 w1 c1 => m_cmp_isNaN_ok N w1 p1  r1 hr1) ?_
 intro r7 u8
 refine lv 6 (by kernel_rfl) (fun w1 c1 => (oa (v := .bool _) rfl)) ?_
 refine ln ?_
 refine xn ?_
 refine cq ?_
 refine cq ?_
 refine cr ?_
 refine lv 11 (by kernel_rfl) (fun w1 c1 => (om (v := .bool _) rfl)) ?_
 refine ln ?_
 refine xn ?_
 refine cm_condB (by kernel_rfl) rfl (fun h9 => ?_) (fun h9 => ?_)
 ·skip
  refine cq ?_
  refine cq ?_
  refine cr ?_
  refine lv 12 (by kernel_rfl) (fun w1 c1 => (om (v := .bool _) rfl)) ?_
  refine ln ?_
  refine xn ?_
  refine cm_condB (by kernel_rfl) rfl (fun h10 => ?_) (fun h10 => ?_)
  ·skip
   refine cq ?_
   refine cr ?_
   refine lv 4 (by kernel_rfl) (fun w1 c1 => (oa (v := .int .i64 _) rfl)) ?_
   refine ln ?_
   refine xn ?_
   refine cm_ret ?_
   refine xm_thenR ?_
   refine xm_thenR ?_
   exact xm_retT rfl (by kernel_rfl) (show _ = Value.int .i64 _ from rfl) fun w1 c1 => ⟨(), rfl, hsub [] (by kernel_rfl) rfl w1 c1⟩
  ·skip
   refine cm_skip ?_
   refine xn ?_
   refine cq ?_
   refine cr ?_
   refine lv 4 (by kernel_rfl) (fun w1 c1 => (oa (v := .int .i64 _) rfl)) ?_
   refine ln ?_
   refine xn ?_
   refine cm_ret ?_
   refine xm_thenR ?_
   exact xm_retT rfl (by kernel_rfl) (show _ = Value.int .i64 _ from rfl) fun w1 c1 => ⟨(), rfl, hsub [] (by kernel_rfl) rfl w1 c1⟩
 ·skip
  refine cm_skip ?_
  refine xn ?_
  refine cq ?_
  refine cq ?_
  refine cr ?_
  refine lv 13 (by kernel_rfl) (fun w1 c1 => (om (v := .bool _) rfl)) ?_
  refine ln ?_
  refine xn ?_
  refine cm_condB (by kernel_rfl) rfl (fun h11 => ?_) (fun h11 => ?_)
  ·skip
   refine cq ?_
   refine cr ?_
   refine lv 4 (by kernel_rfl) (fun w1 c1 => (oa (v := .int .i64 _) rfl)) ?_
   refine ln ?_
   refine xn ?_
   refine cm_ret ?_
   refine xm_thenR ?_
   exact xm_retT rfl (by kernel_rfl) (show _ = Value.int .i64 _ from rfl) fun w1 c1 => ⟨(), rfl, hsub [] (by kernel_rfl) rfl w1 c1⟩
  ·skip
   refine cm_skip ?_
   refine xn ?_
   refine cq ?_
   refine cq ?_
   refine cr ?_
   refine lv 14 (by kernel_rfl) (fun w1 c1 => (om (v := .int .i64 _) rfl)) ?_
   refine lv 15 (by kernel_rfl) (fun w1 c1 => (om (v := .int .i64 _) rfl)) ?_
   refine lv 16 (by kernel_rfl) (fun w1 c1 => (op_lss rfl rfl)) ?_
   refine ln ?_
   refine xn ?_
   refine cm_cond (by kernel_rfl) rfl (fun h12 => ?_) (fun h12 => ?_)
   ·skip
    refine cq ?_
    refine cr ?_
    refine lv 4 (by kernel_rfl) (fun w1 c1 => (oa (v := .int .i64 _) rfl)) ?_
    refine ln ?_
    refine xn ?_
    refine cm_ret ?_
    refine xm_thenR ?_
    exact xm_retT rfl (by kernel_rfl) (show _ = Value.int .i64 _ from rfl) fun w1 c1 => ⟨(), rfl, hsub [] (by kernel_rfl) rfl w1 c1⟩
   ·skip
    refine cm_skip ?_
    refine xn ?_
    refine cq ?_
    refine cq ?_
    refine cr ?_
    refine lv 17 (by kernel_rfl) (fun w1 c1 => (om (v := .int .i64 _) rfl)) ?_
    refine lv 18 (by kernel_rfl) (fun w1 c1 => (om (v := .int .i64 _) rfl)) ?_
    refine lv 19 (by kernel_rfl) (fun w1 c1 => (op_gtr rfl rfl)) ?_
    refine ln ?_
    refine xn ?_
    refine cm_cond (by kernel_rfl) rfl (fun h13 => ?_) (fun h13 => ?_)
    ·skip
     refine cq ?_
     refine cr ?_
     refine lv 4 (by kernel_rfl) (fun w1 c1 => (oa (v := .int .i64 _) rfl)) ?_
     refine ln ?_
     refine xn ?_
     refine cm_ret ?_
     refine xm_thenR ?_
     exact xm_retT rfl (by kernel_rfl) (show _ = Value.int .i64 _ from rfl) fun w1 c1 => ⟨(), rfl, hsub [] (by kernel_rfl) rfl w1 c1⟩
    ·skip
     refine cm_skip ?_
     refine xn ?_
     refine cq ?_
     refine cr ?_
     refine lv 4 (by kernel_rfl) (fun w1 c1 => (oa (v := .int .i64 _) rfl)) ?_
     refine ln ?_
     refine xn ?_
     refine cm_ret ?_
     exact xm_retT rfl (by kernel_rfl) (show _ = Value.int .i64 _ from rfl) fun w1 c1 => ⟨(), rfl, hsub [] (by kernel_rfl) rfl w1 c1⟩
/-- cmp.Or -/
def m_cmp_Or (N : Nat) (p0 : (List Int)) : Option (Int) :=
 (andThen
  (loopM (fun (s37 : Int) =>
   (if s37 < (List.length p0 : Int) then
    ck ((0 : Int) ≤ s37 ∧ s37 < (List.length p0 : Int)) (
     (if (ix p0 s37) ≠ 0 then
      some (.done (.done ((ix p0 s37))))
     else
      ck (I64 (s37 + (1 : Int))) (
       some (.next (s37 + (1 : Int))))))
   else
    some (.done (.next ())))) N (0 : Int))
 fun (_s23 : Unit) =>
  some ((0 : Int)))
set_option maxRecDepth 20000 in
theorem m_cmp_Or_ok (N : Nat) (w0 : World) (p0 : (List Int)) (A_p0 : Option Addr) (n_p0 c_p0 : Nat) (hr_p0 : RdE w0 1 encI A_p0 p0) (hz_p0 : SW A_p0 n_p0 c_p0 (List.length p0)) (r : Int) (hr : m_cmp_Or N p0 = some r) :
  Calls Tryz.prog 98 [.slice A_p0 n_p0 c_p0].toArray w0 fun x w1 => ∃ u, x = .returned ((fun (r : Int) (_u : Unit) => .int .i64 r) r u) ∧ Hs w0 ((fun (_r : Int) (_u : Unit) => []) r u) w1 := by
 refine calls_cm (n := 18) (R := fun r x w1 => ∃ u, x = .returned ((fun (r : Int) (_u : Unit) => .int .i64 r) r u) ∧ Hs w0 ((fun (_r : Int) (_u : Unit) => []) r u) w1) Tryz.func98 rfl rfl (Nat.le_of_ble_eq_true rfl) ?_ r hr
 unfold m_cmp_Or
 refine cq ?_
 refine cr ?_
 refine lv 2 (by kernel_rfl) (fun w1 c1 => (oa (v := .int .i64 _) rfl)) ?_
 refine ln ?_
 refine xn ?_
 refine cq ?_
 refine cr ?_
 refine lv 3 (by kernel_rfl) (fun w1 c1 => (oa (v := .int .i64 _) rfl)) ?_
 refine ln ?_
 refine xn ?_
 refine cm_join (σ := Unit) (ξ := Unit) (fun s23 u24 => [(3, .int .i64 0)]) (fun s23 u24 => []) ?_ ?_
 ·skip
  refine cq ?_
  refine cr ?_
  refine lv 6 (by kernel_rfl) (fun w1 c1 => (om (v := .slice _ _ _) rfl)) ?_
  refine lv 7 (by kernel_rfl) (fun w1 c1 => (op_lenN rfl (by kernel_rfl) hz_p0.2.2)) ?_
  refine lv 8 (by kernel_rfl) (fun w1 c1 => (om (v := .int .i64 _) rfl)) ?_
  refine ln ?_
  refine xn ?_
  refine cm_block ?_
  refine cm_loop (σ := Int) (ξ := Unit) (fun s37 u38 => [(3, .int .i64 0), (6, .slice A_p0 n_p0 c_p0), (7, .int .i64 (List.length p0 : Int)), (8, .int .i64 s37)]) (fun s37 u38 => []) () ?_ ?_ ?_
  ·exact (sc (by kernel_rfl) rfl (sc (by kernel_rfl) rfl (sc (by kernel_rfl) rfl (sc (by kernel_rfl) rfl sub_nil))))
  ·exact hsub [] (by kernel_rfl) rfl
  intro s37 u38
  refine cq ?_
  refine cr ?_
  refine lv 9 (by kernel_rfl) (fun w1 c1 => (op_lss rfl rfl)) ?_
  refine ln ?_
  refine xn ?_
  refine cq ?_
  refine cm_cond (by kernel_rfl) rfl (fun h39 => ?_) (fun h39 => ?_)
  ·skip
   refine cm_skip ?_
   refine xn ?_
   refine cq ?_
   refine cm_block ?_
   refine cq ?_
   refine cr ?_
   refine lm_ck (fun h40 => ?_)
   refine lv 10 (by kernel_rfl) (fun w1 c1 => (op_indexA 1 rfl rfl (by kernel_rfl) ((hr_p0.old c1).addr h40.1 h40.2) hz_p0.2.2 h40.1 h40.2)) ?_
   refine lv 11 (by kernel_rfl) (fun w1 c1 => (ol (v := .int .i64 (ix p0 s37)) rfl (by kernel_rfl) ((hr_p0.old c1).cell0 h40.1 h40.2 rfl))) ?_
   refine lv 5 (by kernel_rfl) (fun w1 c1 => (oa (v := .int .i64 _) rfl)) ?_
   refine ln ?_
   refine xn ?_
   refine cq ?_
   refine cr ?_
   refine lv 12 (by kernel_rfl) (fun w1 c1 => (om (v := .int .i64 _) rfl)) ?_
   refine lv 13 (by kernel_rfl) (fun w1 c1 => (om (v := .int .i64 _) rfl)) ?_
   refine lv 14 (by kernel_rfl) (fun w1 c1 => (op_neq rfl rfl)) ?_
   refine ln ?_
   refine xn ?_
   refine cm_cond (by kernel_rfl) rfl (fun h41 => ?_) (fun h41 => ?_)
   ·skip
    refine cq ?_
    refine cr ?_
    refine lv 15 (by kernel_rfl) (fun w1 c1 => (om (v := .int .i64 _) rfl)) ?_
    refine lv 2 (by kernel_rfl) (fun w1 c1 => (oa (v := .int .i64 _) rfl)) ?_
    refine ln ?_
    refine xn ?_
    refine cm_ret ?_
    refine xm_inR ?_
    refine xm_thenR ?_
    refine xm_lret ?_
    refine xm_inR ?_
    refine xm_lret ?_
    exact xm_retT rfl (by kernel_rfl) (show _ = Value.int .i64 _ from rfl) fun w1 c1 => ⟨(), rfl, hsub [] (by kernel_rfl) rfl w1 c1⟩
   ·skip
    refine cm_skip ?_
    refine xm_inN ?_
    refine xn ?_
    refine cr ?_
    refine lm_ck (fun h42 => ?_)
    refine lv 16 (by kernel_rfl) (fun w1 c1 => (op_add rfl rfl h42)) ?_
    refine lv 8 (by kernel_rfl) (fun w1 c1 => (om (v := .int .i64 _) rfl)) ?_
    refine ln ?_
    exact xm_lnext () (sc (by kernel_rfl) rfl (sc (by kernel_rfl) rfl (sc (by kernel_rfl) rfl (sc (by kernel_rfl) rfl sub_nil)))) (hsub [] (by kernel_rfl) rfl)
  ·skip
   refine cm_exit ?_
   refine xm_thenE ?_
   refine xm_lexit ?_
   refine xm_here ?_
   exact xm_lnext () (sc (by kernel_rfl) rfl sub_nil) (hsub [] (by kernel_rfl) rfl)
 intro s23 u24
 refine cq ?_
 refine cr ?_
 refine lv 17 (by kernel_rfl) (fun w1 c1 => (om (v := .int .i64 _) rfl)) ?_
 refine lv 2 (by kernel_rfl) (fun w1 c1 => (oa (v := .int .i64 _) rfl)) ?_
 refine ln ?_
 refine xn ?_
 refine cm_ret ?_
 exact xm_retT rfl (by kernel_rfl) (show _ = Value.int .i64 _ from rfl) fun w1 c1 => ⟨(), rfl, hsub [] (by kernel_rfl) rfl w1 c1⟩
/-- emptying.sorted$1 -/
def m_emptying_sorted_1 (N : Nat) (p0 : Int) (p1 : Int) (q0 : (List ApiEmptying)) : Option (Int) :=
 ck ((0 : Int) ≤ p0 ∧ p0 < (List.length q0 : Int)) (
  ck ((0 : Int) ≤ p1 ∧ p1 < (List.length q0 : Int)) (
   Option.bind (m_cmp_Compare N ((ix q0 p0).At) ((ix q0 p1).At)) fun r7 => ck ((0 : Int) ≤ p0 ∧ p0 < (List.length q0 : Int)) (
    ck ((0 : Int) ≤ p1 ∧ p1 < (List.length q0 : Int)) (
     Option.bind (m_cmp_Compare N ((ix q0 p0).ID) ((ix q0 p1).ID)) fun r11 => Option.bind (m_cmp_Or N ([r7, r11])) fun r19 => some (r19)))))
set_option maxRecDepth 20000 in
theorem m_emptying_sorted_1_ok (N : Nat) (w0 : World) (p0 : Int) (p1 : Int) (q0 : (List ApiEmptying)) (b_q0 : Nat) (A_q01 : Option Addr) (n_q01 c_q01 : Nat) (hb_q0 : Blk w0 b_q0 25 [.slice A_q01 n_q01 c_q01]) (hr_q01 : RdE w0 7 encApiEmptying A_q01 q0) (hz_q01 : SW A_q01 n_q01 c_q01 (List.length q0)) (r : Int) (hr : m_emptying_sorted_1 N p0 p1 q0 = some r) :
  Calls Tryz.prog 97 [.int .i64 p0, .int .i64 p1, .pointer (some ⟨b_q0, 0, none⟩)].toArray w0 fun x w1 => ∃ u, x = .returned ((fun (r : Int) (_u : Unit) => .int .i64 r) r u) ∧ Hs w0 ((fun (_r : Int) (_u : Unit) => []) r u) w1 := by
 refine calls_cm (n := 30) (R := fun r x w1 => ∃ u, x = .returned ((fun (r : Int) (_u : Unit) => .int .i64 r) r u) ∧ Hs w0 ((fun (_r : Int) (_u : Unit) => []) r u) w1) Tryz.func97 rfl rfl (Nat.le_of_ble_eq_true rfl) ?_ r hr
 unfold m_emptying_sorted_1
 refine cq ?_
 refine cr ?_
 refine lv 5 (by kernel_rfl) (fun w1 c1 => (oa (v := .int .i64 _) rfl)) ?_
 refine ln ?_
 refine xn ?_
 refine cq ?_
 refine cm_ck (fun h5 => ?_)
 refine cm_ck (fun h6 => ?_)
 refine cm_bind fun r7 h8 => ?_
 refine cm_ck (fun h9 => ?_)
 refine cm_ck (fun h10 => ?_)
 refine cm_bind fun r11 h12 => ?_
 refine cm_bind fun r19 h20 => ?_
 refine cm_held (ξ := Unit) (fun u36 => [(5, .int .i64 r19)]) (fun u36 => []) [] 25 (by kernel_rfl) (by rfl) (hsub [] (by kernel_rfl) (by rfl)) ?_ ?_
 ·intro w38 c39
  refine wh_take 0 6 rfl (by kernel_rfl) (by kernel_rfl) (fun w2 c2 => (ol rfl (by kernel_rfl) (c2.ocell (hb_q0.at_ 0 (u := .slice _ _ _) rfl)))) (hsub [] (by kernel_rfl) rfl _ c39) ?_
  refine wh_take 1 7 rfl (by kernel_rfl) (by kernel_rfl) (fun w2 c2 => (om (v := .int .i64 _) rfl)) (hsub [] (by kernel_rfl) rfl _ c39) ?_
  refine wh_take 2 8 rfl (by kernel_rfl) (by kernel_rfl) (fun w2 c2 => (op_indexA 7 rfl rfl (by kernel_rfl) ((hr_q01.old c2).addr h5.1 h5.2) hz_q01.2.2 h5.1 h5.2)) (hsub [] (by kernel_rfl) rfl _ c39) ?_
  refine wh_take 3 9 rfl (by kernel_rfl) (by kernel_rfl) (fun w2 c2 => (op_field (m := 3) rfl (by kernel_rfl))) (hsub [] (by kernel_rfl) rfl _ c39) ?_
  refine wh_take 4 10 rfl (by kernel_rfl) (by kernel_rfl) (fun w2 c2 => (ol (v := .int .i64 ((ix q0 p0).At)) rfl (by kernel_rfl) ((hr_q01.old c2).cell (j := 3) h5.1 h5.2 rfl))) (hsub [] (by kernel_rfl) rfl _ c39) ?_
  refine wh_take 5 11 rfl (by kernel_rfl) (by kernel_rfl) (fun w2 c2 => (ol rfl (by kernel_rfl) (c2.ocell (hb_q0.at_ 0 (u := .slice _ _ _) rfl)))) (hsub [] (by kernel_rfl) rfl _ c39) ?_
  refine wh_take 6 12 rfl (by kernel_rfl) (by kernel_rfl) (fun w2 c2 => (om (v := .int .i64 _) rfl)) (hsub [] (by kernel_rfl) rfl _ c39) ?_
  refine wh_take 7 13 rfl (by kernel_rfl) (by kernel_rfl) (fun w2 c2 => (op_indexA 7 rfl rfl (by kernel_rfl) ((hr_q01.old c2).addr h6.1 h6.2) hz_q01.2.2 h6.1 h6.2)) (hsub [] (by kernel_rfl) rfl _ c39) ?_
  refine wh_take 8 14 rfl (by kernel_rfl) (by kernel_rfl) (fun w2 c2 => (op_field (m := 3) rfl (by kernel_rfl))) (hsub [] (by kernel_rfl) rfl _ c39) ?_
  refine wh_take 9 15 rfl (by kernel_rfl) (by kernel_rfl) (fun w2 c2 => (ol (v := .int .i64 ((ix q0 p1).At)) rfl (by kernel_rfl) ((hr_q01.old c2).cell (j := 3) h6.1 h6.2 rfl))) (hsub [] (by kernel_rfl) rfl _ c39) ?_
  refine wh_take 11 17 rfl (by kernel_rfl) (by kernel_rfl) (fun w2 c2 => (ol rfl (by kernel_rfl) (c2.ocell (hb_q0.at_ 0 (u := .slice _ _ _) rfl)))) (hsub [] (by kernel_rfl) rfl _ c39) ?_
  refine wh_take 12 18 rfl (by kernel_rfl) (by kernel_rfl) (fun w2 c2 => (om (v := .int .i64 _) rfl)) (hsub [] (by kernel_rfl) rfl _ c39) ?_
  refine wh_take 13 19 rfl (by kernel_rfl) (by kernel_rfl) (fun w2 c2 => (op_indexA 7 rfl rfl (by kernel_rfl) ((hr_q01.old c2).addr h9.1 h9.2) hz_q01.2.2 h9.1 h9.2)) (hsub [] (by kernel_rfl) rfl _ c39) ?_
  refine wh_take 14 20 rfl (by kernel_rfl) (by kernel_rfl) (fun w2 c2 => (op_field0 rfl (by kernel_rfl))) (hsub [] (by kernel_rfl) rfl _ c39) ?_
  refine wh_take 15 21 rfl (by kernel_rfl) (by kernel_rfl) (fun w2 c2 => (ol (v := .int .i64 ((ix q0 p0).ID)) rfl (by kernel_rfl) ((hr_q01.old c2).cell0 h9.1 h9.2 rfl))) (hsub [] (by kernel_rfl) rfl _ c39) ?_
  refine wh_take 16 22 rfl (by kernel_rfl) (by kernel_rfl) (fun w2 c2 => (ol rfl (by kernel_rfl) (c2.ocell (hb_q0.at_ 0 (u := .slice _ _ _) rfl)))) (hsub [] (by kernel_rfl) rfl _ c39) ?_
  refine wh_take 17 23 rfl (by kernel_rfl) (by kernel_rfl) (fun w2 c2 => (om (v := .int .i64 _) rfl)) (hsub [] (by kernel_rfl) rfl _ c39) ?_
  refine wh_take 18 24 rfl (by kernel_rfl) (by kernel_rfl) (fun w2 c2 => (op_indexA 7 rfl rfl (by kernel_rfl) ((hr_q01.old c2).addr h10.1 h10.2) hz_q01.2.2 h10.1 h10.2)) (hsub [] (by kernel_rfl) rfl _ c39) ?_
  refine wh_take 19 25 rfl (by kernel_rfl) (by kernel_rfl) (fun w2 c2 => (op_field0 rfl (by kernel_rfl))) (hsub [] (by kernel_rfl) rfl _ c39) ?_
  refine wh_take 20 26 rfl (by kernel_rfl) (by kernel_rfl) (fun w2 c2 => (ol (v := .int .i64 ((ix q0 p1).ID)) rfl (by kernel_rfl) ((hr_q01.old c2).cell0 h10.1 h10.2 rfl))) (hsub [] (by kernel_rfl) rfl _ c39) ?_
  refine wh_ready [10] (by kernel_rfl) rfl ⟨?_, trivial⟩
  refine ws_call 16 rfl (by kernel_rfl) (op_call (by kernel_rfl)) (m_cmp_Compare_ok N _ ((ix q0 p0).At) ((ix q0 p1).At)  r7 h8) ?_
  rintro x w41 ⟨u40, rfl, c42⟩
  replace c42 := c39.call c42
  refine ⟨_, rfl, (hsub [] (by kernel_rfl) rfl _ c42), ?_⟩
  refine wh_ready [21] (by kernel_rfl) rfl ⟨?_, trivial⟩
  refine ws_call 27 rfl (by kernel_rfl) (op_call (by kernel_rfl)) (m_cmp_Compare_ok N _ ((ix q0 p0).ID) ((ix q0 p1).ID)  r11 h12) ?_
  rintro x w44 ⟨u43, rfl, c45⟩
  replace c45 := c42.call c45
  refine ⟨_, rfl, (hsub [] (by kernel_rfl) rfl _ c45), ?_⟩
  refine wh_ready [22] (by kernel_rfl) rfl ⟨?_, trivial⟩
  refine ws_sliceN 28 (el := 3) (sz := 1) (bytes := 8) (enc := encI) [r7, r11] rfl (by kernel_rfl) (by kernel_rfl) encI_len rfl ⟨rfl, rfl, ⟨rfl, rfl, trivial⟩⟩ (by kernel_rfl) (by kernel_rfl) c45 ?_
  intro A46 n47 k48 w49 c50
  refine ⟨(hsub [] (by kernel_rfl) rfl _ c50), ?_⟩
  refine wh_strong (Hs w0 [ownE 3 1 encI A46 n47 k48 ([r7, r11])]) (fun w2 c2 => hsub [] (by kernel_rfl) rfl w2 c2) ?_
  refine wh_ready [23] (by kernel_rfl) rfl ⟨?_, trivial⟩
  refine ws_call 29 rfl (by kernel_rfl) (op_call (by kernel_rfl)) (m_cmp_Or_ok N _ ([r7, r11]) A46 n47 k48 (c50.own 0 rfl encI_len) (c50.ownZ 0 rfl) r19 h20) ?_
  rintro x w53 ⟨u52, rfl, c54⟩
  replace c54 := c50.call c54
  refine ⟨_, rfl, (hsub [0] (by kernel_rfl) rfl _ c54), ?_⟩
  refine wh_take 24 5 rfl (by kernel_rfl) (by kernel_rfl) (fun w2 c2 => (oa (v := .int .i64 _) rfl)) (hsub [0] (by kernel_rfl) rfl _ c54) ?_
  exact wh_done () (by kernel_rfl) (sc (by kernel_rfl) rfl sub_nil) (hsub [] (by kernel_rfl) rfl _ c54)
 intro u36
 refine xn ?_
 refine cm_ret ?_
 exact xm_retT rfl (by kernel_rfl) (show _ = Value.int .i64 _ from rfl) fun w1 c1 => ⟨(), rfl, hsub [] (by kernel_rfl) rfl w1 c1⟩
/-- emptying.sorted -/
def m_emptying_sorted (N : Nat) (p0 : (List ApiEmptying)) : Option ((List Int)) :=
 ck ((0 : Int) ≤ (List.length p0 : Int) ∧ Int.toNat (List.length p0 : Int) * 8 ≤ 140737488355328) (
  (andThen
   (loopM (fun (s38 : (List Int) × Int) =>
    (if s38.2 < (List.length (List.replicate (Int.toNat (List.length p0 : Int)) (0 : Int)) : Int) then
     ck ((0 : Int) ≤ s38.2 ∧ s38.2 < (List.length s38.1 : Int)) (
      ck (I64 (s38.2 + (1 : Int))) (
       some (.next ((List.set s38.1 (Int.toNat s38.2) s38.2), (s38.2 + (1 : Int))))))
    else
     some (.done (.next s38.1)))) N ((List.replicate (Int.toNat (List.length p0 : Int)) (0 : Int)), (0 : Int)))
  fun (s26 : (List Int)) =>
   ck (sortOk (fun x y => m_emptying_sorted_1 N x y p0) s26 ∧ List.length s26 < 4611686018427387904) (
    some ((sortO (fun x y => m_emptying_sorted_1 N x y p0) s26)))))
set_option maxRecDepth 20000 in
theorem m_emptying_sorted_ok (N : Nat) (w0 : World) (p0 : (List ApiEmptying)) (A_p0 : Option Addr) (n_p0 c_p0 : Nat) (hr_p0 : RdE w0 7 encApiEmptying A_p0 p0) (hz_p0 : SW A_p0 n_p0 c_p0 (List.length p0)) (r : (List Int)) (hr : m_emptying_sorted N p0 = some r) :
  Calls Tryz.prog 94 [.slice A_p0 n_p0 c_p0].toArray w0 fun x w1 => ∃ u, x = .returned ((fun (_r : (List Int)) (u : (Option Addr) × Nat × Nat) => .slice u.1 u.2.1 u.2.2) r u) ∧ Hs w0 ((fun (r : (List Int)) (u : (Option Addr) × Nat × Nat) => [ownE 3 1 encI u.1 u.2.1 u.2.2 r]) r u) w1 := by
 refine calls_cm (n := 22) (R := fun r x w1 => ∃ u, x = .returned ((fun (_r : (List Int)) (u : (Option Addr) × Nat × Nat) => .slice u.1 u.2.1 u.2.2) r u) ∧ Hs w0 ((fun (r : (List Int)) (u : (Option Addr) × Nat × Nat) => [ownE 3 1 encI u.1 u.2.1 u.2.2 r]) r u) w1) Tryz.func94 rfl rfl (Nat.le_of_ble_eq_true rfl) ?_ r hr
 unfold m_emptying_sorted
 refine cq ?_
 refine cr ?_
 refine lm_box 1 [.slice _ _ _] (by kernel_rfl) rfl ?_
 intro b5
 refine lv 2 (by kernel_rfl) (fun w1 c1 => (oa (v := .slice _ _ _) rfl)) ?_
 refine ln ?_
 refine xn ?_
 refine cq ?_
 refine cr ?_
 refine lv 5 (by kernel_rfl) (fun w1 c1 => (ol rfl (by kernel_rfl) (c1.cell 0 (u := .slice _ _ _) rfl rfl))) ?_
 refine lv 6 (by kernel_rfl) (fun w1 c1 => (op_lenN rfl (by kernel_rfl) hz_p0.2.2)) ?_
 refine lm_ck (fun h6 => ?_)
 refine lm_make 7 (el := 3) (sz := 1) (bytes := 8) (enc := encI) (0 : Int) (zv := .int .i64 0) (by kernel_rfl) (by kernel_rfl) (by kernel_rfl) rfl encI_len rfl rfl h6.1 h6.2 (by kernel_rfl) ?_
 intro A7 n8 k9 h10
 refine lv 3 (by kernel_rfl) (fun w1 c1 => (oa (v := .slice _ _ _) rfl)) ?_
 refine ln ?_
 refine xn ?_
 refine cm_join (σ := (List Int)) (ξ := Unit) (fun s26 u27 => [(1, .pointer (some ⟨b5, 0, none⟩)), (3, .slice A7 n8 k9)]) (fun s26 u27 => [blkE b5 25 [.slice A_p0 n_p0 c_p0], ownE 3 1 encI A7 n8 k9 s26]) ?_ ?_
 ·skip
  refine cq ?_
  refine cr ?_
  refine lv 8 (by kernel_rfl) (fun w1 c1 => (om (v := .slice _ _ _) rfl)) ?_
  refine lv 9 (by kernel_rfl) (fun w1 c1 => (op_lenN rfl (by kernel_rfl) (c1.ownZ 0 rfl).2.2)) ?_
  refine lv 10 (by kernel_rfl) (fun w1 c1 => (om (v := .int .i64 _) rfl)) ?_
  refine ln ?_
  refine xn ?_
  refine cm_block ?_
  refine cm_loop (σ := (List Int) × Int) (ξ := Unit) (fun s38 u39 => [(1, .pointer (some ⟨b5, 0, none⟩)), (3, .slice A7 n8 k9), (9, .int .i64 (List.length (List.replicate (Int.toNat (List.length p0 : Int)) (0 : Int)) : Int)), (10, .int .i64 s38.2)]) (fun s38 u39 => [blkE b5 25 [.slice A_p0 n_p0 c_p0], ownE 3 1 encI A7 n8 k9 s38.1]) () ?_ ?_ ?_
  ·exact (sc (by kernel_rfl) rfl (sc (by kernel_rfl) rfl (sc (by kernel_rfl) rfl (sc (by kernel_rfl) rfl sub_nil))))
  ·exact hsub [1, 0] (by kernel_rfl) rfl
  intro s38 u39
  refine cq ?_
  refine cr ?_
  refine lv 11 (by kernel_rfl) (fun w1 c1 => (op_lss rfl rfl)) ?_
  refine ln ?_
  refine xn ?_
  refine cq ?_
  refine cm_cond (by kernel_rfl) rfl (fun h40 => ?_) (fun h40 => ?_)
  ·skip
   refine cm_skip ?_
   refine xn ?_
   refine cq ?_
   refine cm_block ?_
   refine cq ?_
   refine cr ?_
   refine lv 12 (by kernel_rfl) (fun w1 c1 => (om (v := .int .i64 _) rfl)) ?_
   refine lv 4 (by kernel_rfl) (fun w1 c1 => (oa (v := .int .i64 _) rfl)) ?_
   refine ln ?_
   refine xn ?_
   refine cr ?_
   refine lv 13 (by kernel_rfl) (fun w1 c1 => (om (v := .slice _ _ _) rfl)) ?_
   refine lv 14 (by kernel_rfl) (fun w1 c1 => (om (v := .int .i64 _) rfl)) ?_
   refine lv 15 (by kernel_rfl) (fun w1 c1 => (om (v := .int .i64 _) rfl)) ?_
   refine lm_ck (fun h41 => ?_)
   refine lv 16 (by kernel_rfl) (fun w1 c1 => (op_indexA 1 rfl rfl (by kernel_rfl) ((c1.own 1 rfl encI_len).addr h41.1 h41.2) (c1.ownZ 1 rfl).2.2 h41.1 h41.2)) ?_
   refine lm_storeIx 1 s38.2 0 [.int .i64 _] (by kernel_rfl) rfl rfl (by kernel_rfl) rfl rfl rfl encI_len encI_one h41.1 h41.2 (by kernel_rfl) rfl ?_
   refine ln ?_
   refine xm_inN ?_
   refine xn ?_
   refine cr ?_
   refine lm_ck (fun h42 => ?_)
   refine lv 17 (by kernel_rfl) (fun w1 c1 => (op_add rfl rfl h42)) ?_
   refine lv 10 (by kernel_rfl) (fun w1 c1 => (om (v := .int .i64 _) rfl)) ?_
   refine ln ?_
   exact xm_lnext () (sc (by kernel_rfl) rfl (sc (by kernel_rfl) rfl (sc (by kernel_rfl) rfl (sc (by kernel_rfl) rfl sub_nil)))) (hsub [0, 1] (by kernel_rfl) rfl)
  ·skip
   refine cm_exit ?_
   refine xm_thenE ?_
   refine xm_lexit ?_
   refine xm_here ?_
   exact xm_lnext () (sc (by kernel_rfl) rfl (sc (by kernel_rfl) rfl sub_nil)) (hsub [0, 1] (by kernel_rfl) rfl)
 intro s26 u27
 refine cq ?_
 refine cr ?_
 refine lv 18 (by kernel_rfl) (fun w1 c1 => (om (v := .slice _ _ _) rfl)) ?_
 refine lv 19 (by kernel_rfl) (fun w1 c1 => (op_makeFuncC [.pointer (some ⟨_, _, _⟩)] rfl)) ?_
 refine lm_ck (fun h43 => ?_)
 refine lm_callS 20 (by kernel_rfl) (fun w1 => op_call (by kernel_rfl)) (fun w1 c1 => sort1_own Tryz.sortInt encI (Value.int .i64) (fun _ => rfl) (fun _ => rfl) (fun x y => m_emptying_sorted_1 N x y p0) 97 3 [.pointer (some ⟨b5, 0, none⟩)] (enters_of Tryz.func97 (by kernel_rfl) rfl) 1 rfl h43.1 h43.2 c1 (fun s1 w2 c1 x y r hr => (m_emptying_sorted_1_ok N w2 x y p0 b5 A_p0 n_p0 c_p0 (c1.blk 0 rfl) (hr_p0.old c1) hz_p0 r hr).mono fun e w3 ⟨_, he, hw⟩ => ⟨he, hw⟩)) ?_
 refine ln ?_
 refine xn ?_
 refine cq ?_
 refine cr ?_
 refine lv 21 (by kernel_rfl) (fun w1 c1 => (om (v := .slice _ _ _) rfl)) ?_
 refine lv 2 (by kernel_rfl) (fun w1 c1 => (oa (v := .slice _ _ _) rfl)) ?_
 refine ln ?_
 refine xn ?_
 refine cm_ret ?_
 exact xm_retT rfl (by kernel_rfl) (show _ = Value.slice _ _ _ from rfl) fun w1 c1 => ⟨(A7, n8, k9), rfl, hsub [1] (by kernel_rfl) rfl w1 c1⟩
/-- emptying.Counts -/
def m_emptying_Counts (N : Nat) (p0 : (List ApiEmptying)) (p1 : Int) : Option ((List Int) × Int) :=
 Option.bind (m_emptying_Check N p0 (256 : Int) (16 : Int)) fun r5 => (if r5 ≠ 0 then
  some ((([] : List Int), r5))
 else
  Option.bind (m_emptying_within N p1 (0 : Int) (86400 : Int)) fun r8 => (if (!r8) = true then
   some ((([] : List Int), (1 : Int)))
  else
   (andThen
    (Option.bind (m_emptying_sorted N p0) fun r136 => (loopM (fun (s218 : (List (Int × Int)) × (List Int) × Int) =>
     (if s218.2.2 < (List.length r136 : Int) then
      (andThen
       (ck ((0 : Int) ≤ s218.2.2 ∧ s218.2.2 < (List.length r136 : Int)) (
        ck ((0 : Int) ≤ (ix r136 s218.2.2) ∧ (ix r136 s218.2.2) < (List.length p0 : Int)) (
         ck (I64 ((ix p0 (ix r136 s218.2.2)).Container)) (
          ck (((!((ix p0 (ix r136 s218.2.2)).Void)) && (Option.isSome (mget s218.1 ((ix p0 (ix r136 s218.2.2)).Container)))) = true → I64 (((ix p0 (ix r136 s218.2.2)).At) - (Option.getD (mget s218.1 ((ix p0 (ix r136 s218.2.2)).Container)) (0 : Int)))) (
           (if (((ix p0 (ix r136 s218.2.2)).Void) || ((Option.isSome (mget s218.1 ((ix p0 (ix r136 s218.2.2)).Container))) && (decide ((((ix p0 (ix r136 s218.2.2)).At) - (Option.getD (mget s218.1 ((ix p0 (ix r136 s218.2.2)).Container)) (0 : Int))) ≤ p1)))) = true then
            some (.next (s218.1, s218.2.1))
           else
            ck (I64 ((ix p0 (ix r136 s218.2.2)).Container)) (
             ck ((List.length s218.2.1 + List.length ([(ix r136 s218.2.2)])) * 8 ≤ 140737488355328) (
              some (.next ((mput s218.1 ((ix p0 (ix r136 s218.2.2)).Container) ((ix p0 (ix r136 s218.2.2)).At)), (s218.2.1 ++ ([(ix r136 s218.2.2)]))))))))))))
      fun (s238 : (List (Int × Int)) × (List Int)) =>
       ck (I64 (s218.2.2 + (1 : Int))) (
        some (.next (s238.1, s238.2, (s218.2.2 + (1 : Int))))))
     else
      some (.done (.next s218.2.1)))) N (([] : (List (Int × Int))), ([] : List Int), (0 : Int))))
   fun (s134 : (List Int)) =>
    some ((s134, (0 : Int))))))
set_option maxHeartbeats 2000000 in
set_option maxRecDepth 20000 in
theorem m_emptying_Counts_ok (N : Nat) (w0 : World) (p0 : (List ApiEmptying)) (p1 : Int) (A_p0 : Option Addr) (n_p0 c_p0 : Nat) (hr_p0 : RdE w0 7 encApiEmptying A_p0 p0) (hz_p0 : SW A_p0 n_p0 c_p0 (List.length p0)) (r : (List Int) × Int) (hr : m_emptying_Counts N p0 p1 = some r) :
  Calls Tryz.prog 92 [.slice A_p0 n_p0 c_p0, .int .i64 p1].toArray w0 fun x w1 => ∃ u, x = .returned ((fun (r : (List Int) × Int) (u : (Option Addr) × Nat × Nat) => .tuple #[.slice u.1 u.2.1 u.2.2, .int .i64 r.2]) r u) ∧ Hs w0 ((fun (r : (List Int) × Int) (u : (Option Addr) × Nat × Nat) => [ownE 3 1 encI u.1 u.2.1 u.2.2 r.1]) r u) w1 := by
 refine calls_cm (n := 65) (R := fun r x w1 => ∃ u, x = .returned ((fun (r : (List Int) × Int) (u : (Option Addr) × Nat × Nat) => .tuple #[.slice u.1 u.2.1 u.2.2, .int .i64 r.2]) r u) ∧ Hs w0 ((fun (r : (List Int) × Int) (u : (Option Addr) × Nat × Nat) => [ownE 3 1 encI u.1 u.2.1 u.2.2 r.1]) r u) w1) Tryz.func92 rfl rfl (Nat.le_of_ble_eq_true rfl) ?_ r hr
 unfold m_emptying_Counts
 refine cq ?_
 refine cr ?_
 refine lv 4 (by kernel_rfl) (fun w1 c1 => (oa (v := .slice _ _ _) rfl)) ?_
 refine lv 5 (by kernel_rfl) (fun w1 c1 => (oa (v := .int .i64 _) rfl)) ?_
 refine ln ?_
 refine xn ?_
 refine cq ?_
 refine cq ?_
 refine cr ?_
 refine lv 14 (by kernel_rfl) (fun w1 c1 => (om (v := .slice _ _ _) rfl)) ?_
 refine lm_call 15 (V := (fun (r : Int) (_u : Unit) => .int .i64 r)) (HR := (fun (_r : Int) (_u : Unit) => [])) (by kernel_rfl) (fun w1 => op_call (by kernel_rfl)) (fun r1 hr1 w1 c1 => m_emptying_Check_ok N w1 p0 (256 : Int) (16 : Int) A_p0 n_p0 c_p0 (hr_p0.old c1) hz_p0 r1 hr1) ?_
 intro r5 u6
 refine lv 6 (by kernel_rfl) (fun w1 c1 => (oa (v := .int .i64 _) rfl)) ?_
 refine ln ?_
 refine xn ?_
 refine cq ?_
 refine cr ?_
 refine lv 16 (by kernel_rfl) (fun w1 c1 => (om (v := .int .i64 _) rfl)) ?_
 refine lv 17 (by kernel_rfl) (fun w1 c1 => (op_neq rfl rfl)) ?_
 refine ln ?_
 refine xn ?_
 refine cm_cond (by kernel_rfl) rfl (fun h7 => ?_) (fun h7 => ?_)
 ·skip
  refine cq ?_
  refine cr ?_
  refine lv 18 (by kernel_rfl) (fun w1 c1 => (om (v := .int .i64 _) rfl)) ?_
  refine lv 4 (by kernel_rfl) (fun w1 c1 => (oa (v := .slice _ _ _) rfl)) ?_
  refine lv 5 (by kernel_rfl) (fun w1 c1 => (oa (v := .int .i64 _) rfl)) ?_
  refine ln ?_
  refine xn ?_
  refine cm_ret ?_
  refine xm_thenR ?_
  refine xm_nilrow 3 1 encI ?_
  exact xm_retTT rfl (by kernel_rfl) (show _ = Value.slice _ _ _ from rfl) (by kernel_rfl) (show _ = Value.int .i64 _ from rfl) fun w1 c1 => ⟨(none, 0, 0), rfl, hsub [0] (by kernel_rfl) rfl w1 c1⟩
 ·skip
  refine cm_skip ?_
  refine xn ?_
  refine cq ?_
  refine cq ?_
  refine cr ?_
  refine lv 19 (by kernel_rfl) (fun w1 c1 => (om (v := .int .i64 _) rfl)) ?_
  refine lm_call 20 (V := (fun (r : Bool) (_u : Unit) => .bool r)) (HR := (fun (_r : Bool) (_u : Unit) => [])) (by kernel_rfl) (fun w1 => op_call (by kernel_rfl)) (fun r1 hr1 w1 c1 => m_emptying_within_ok N w1 p1 (0 : Int) (86400 : Int)  r1 hr1) ?_
  intro r8 u9
  refine lv 21 (by kernel_rfl) (fun w1 c1 => (op_not rfl)) ?_
  refine ln ?_
  refine xn ?_
  refine cm_condB (by kernel_rfl) rfl (fun h10 => ?_) (fun h10 => ?_)
  ·skip
   refine cq ?_
   refine cr ?_
   refine lv 4 (by kernel_rfl) (fun w1 c1 => (oa (v := .slice _ _ _) rfl)) ?_
   refine lv 5 (by kernel_rfl) (fun w1 c1 => (oa (v := .int .i64 _) rfl)) ?_
   refine ln ?_
   refine xn ?_
   refine cm_ret ?_
   refine xm_thenR ?_
   refine xm_nilrow 3 1 encI ?_
   exact xm_retTT rfl (by kernel_rfl) (show _ = Value.slice _ _ _ from rfl) (by kernel_rfl) (show _ = Value.int .i64 _ from rfl) fun w1 c1 => ⟨(none, 0, 0), rfl, hsub [0] (by kernel_rfl) rfl w1 c1⟩
  ·skip
   refine cm_skip ?_
   refine xn ?_
   refine cq ?_
   refine cr ?_
   refine lm_makeMap (κ := Int) (α := Int) 22 3 (Value.int .i64) (Value.int .i64) (by kernel_rfl) ?_
   intro b11
   refine lv 7 (by kernel_rfl) (fun w1 c1 => (oa (v := .map (some _)) rfl)) ?_
   refine ln ?_
   refine xn ?_
   refine cq ?_
   refine cr ?_
   refine lv 8 (by kernel_rfl) (fun w1 c1 => (oa (v := .slice _ _ _) rfl)) ?_
   refine ln ?_
   refine xn ?_
   refine cm_join (σ := (List Int)) (ξ := (Option Addr) × Nat × Nat) (fun s134 u135 => [(8, .slice u135.1 u135.2.1 u135.2.2)]) (fun s134 u135 => [ownE 3 1 encI u135.1 u135.2.1 u135.2.2 s134]) ?_ ?_
   ·skip
    refine cq ?_
    refine cr ?_
    refine lv 23 (by kernel_rfl) (fun w1 c1 => (om (v := .slice _ _ _) rfl)) ?_
    refine lm_call 24 (V := (fun (_r : (List Int)) (u : (Option Addr) × Nat × Nat) => .slice u.1 u.2.1 u.2.2)) (HR := (fun (r : (List Int)) (u : (Option Addr) × Nat × Nat) => [ownE 3 1 encI u.1 u.2.1 u.2.2 r])) (by kernel_rfl) (fun w1 => op_call (by kernel_rfl)) (fun r1 hr1 w1 c1 => m_emptying_sorted_ok N w1 p0 A_p0 n_p0 c_p0 (hr_p0.old c1) hz_p0 r1 hr1) ?_
    intro r136 u137
    refine lv 25 (by kernel_rfl) (fun w1 c1 => (op_lenN rfl (by kernel_rfl) (c1.ownZ 0 rfl).2.2)) ?_
    refine lv 26 (by kernel_rfl) (fun w1 c1 => (om (v := .int .i64 _) rfl)) ?_
    refine ln ?_
    refine xn ?_
    refine cm_block ?_
    refine cm_nilrow 3 1 encI ?_
    refine cm_loop (σ := (List (Int × Int)) × (List Int) × Int) (ξ := (Option Addr) × Nat × Nat) (fun s218 u219 => [(0, .slice A_p0 n_p0 c_p0), (1, .int .i64 p1), (7, .map (some b11)), (8, .slice u219.1 u219.2.1 u219.2.2), (24, .slice u137.1 u137.2.1 u137.2.2), (25, .int .i64 (List.length r136 : Int)), (26, .int .i64 s218.2.2)]) (fun s218 u219 => [mapE Tryz.prog 3 (Value.int .i64) (Value.int .i64) b11 s218.1, ownE 3 1 encI u219.1 u219.2.1 u219.2.2 s218.2.1, ownE 3 1 encI u137.1 u137.2.1 u137.2.2 r136]) (none, 0, 0) ?_ ?_ ?_
    ·exact (sc (by kernel_rfl) rfl (sc (by kernel_rfl) rfl (sc (by kernel_rfl) rfl (sc (by kernel_rfl) rfl (sc (by kernel_rfl) rfl (sc (by kernel_rfl) rfl (sc (by kernel_rfl) rfl sub_nil)))))))
    ·exact hsub [2, 0, 1] (by kernel_rfl) rfl
    intro s218 u219
    refine cq ?_
    refine cr ?_
    refine lv 27 (by kernel_rfl) (fun w1 c1 => (op_lss rfl rfl)) ?_
    refine ln ?_
    refine xn ?_
    refine cq ?_
    refine cm_cond (by kernel_rfl) rfl (fun h220 => ?_) (fun h220 => ?_)
    ·skip
     refine cm_skip ?_
     refine xn ?_
     refine cm_join (σ := (List (Int × Int)) × (List Int)) (ξ := (Option Addr) × Nat × Nat) (fun s238 u239 => [(0, .slice A_p0 n_p0 c_p0), (1, .int .i64 p1), (7, .map (some b11)), (8, .slice u239.1 u239.2.1 u239.2.2), (24, .slice u137.1 u137.2.1 u137.2.2), (25, .int .i64 (List.length r136 : Int)), (26, .int .i64 s218.2.2)]) (fun s238 u239 => [mapE Tryz.prog 3 (Value.int .i64) (Value.int .i64) b11 s238.1, ownE 3 1 encI u239.1 u239.2.1 u239.2.2 s238.2, ownE 3 1 encI u137.1 u137.2.1 u137.2.2 r136]) ?_ ?_
     ·skip
      refine cm_block ?_
      refine cq ?_
      refine cr ?_
      refine lm_ck (fun h240 => ?_)
      refine lv 28 (by kernel_rfl) (fun w1 c1 => (op_indexA 1 rfl rfl (by kernel_rfl) ((c1.own 2 rfl encI_len).addr h240.1 h240.2) (c1.ownZ 2 rfl).2.2 h240.1 h240.2)) ?_
      refine lv 29 (by kernel_rfl) (fun w1 c1 => (ol (v := .int .i64 (ix r136 s218.2.2)) rfl (by kernel_rfl) ((c1.own 2 rfl encI_len).cell0 h240.1 h240.2 rfl))) ?_
      refine lv 10 (by kernel_rfl) (fun w1 c1 => (oa (v := .int .i64 _) rfl)) ?_
      refine ln ?_
      refine xn ?_
      refine cq ?_
      refine cr ?_
      refine lv 30 (by kernel_rfl) (fun w1 c1 => (om (v := .slice _ _ _) rfl)) ?_
      refine lv 31 (by kernel_rfl) (fun w1 c1 => (om (v := .int .i64 _) rfl)) ?_
      refine lm_ck (fun h241 => ?_)
      refine lv 32 (by kernel_rfl) (fun w1 c1 => (op_indexA 7 rfl rfl (by kernel_rfl) ((hr_p0.old c1).addr h241.1 h241.2) hz_p0.2.2 h241.1 h241.2)) ?_
      refine lv 33 (by kernel_rfl) (fun w1 c1 => (op_loadR [.int .i64 ((ix p0 (ix r136 s218.2.2)).ID), .int .i64 ((ix p0 (ix r136 s218.2.2)).Container), .int .i64 ((ix p0 (ix r136 s218.2.2)).Vehicle), .int .i64 ((ix p0 (ix r136 s218.2.2)).At), .int .i64 ((ix p0 (ix r136 s218.2.2)).Mass.Lo), .int .i64 ((ix p0 (ix r136 s218.2.2)).Mass.Hi), .bool ((ix p0 (ix r136 s218.2.2)).Void)] rfl (by kernel_rfl) ((hr_p0.old c1).row h241.1 h241.2))) ?_
      refine lm_alloc 11 [.int .i64 0, .int .i64 0, .int .i64 0, .int .i64 0, .int .i64 0, .int .i64 0, .bool false] (v := .agg #[.int .i64 0, .int .i64 0, .int .i64 0, .int .i64 0, .int .i64 0, .int .i64 0, .bool false]) (by kernel_rfl) (by kernel_rfl) rfl ?_
      intro b242
      refine lm_storeA 0 [.int .i64 _, .int .i64 _, .int .i64 _, .int .i64 _, .int .i64 _, .int .i64 _, .bool _] [_, _, _, _, _, _, _] (H' := [blkE _ _ [_, _, _, _, _, _, _], _, _, _]) (by kernel_rfl) rfl rfl (by kernel_rfl) rfl rfl (by kernel_rfl) rfl rfl ?_
      refine ln ?_
      refine xn ?_
      refine cq ?_
      refine cr ?_
      refine lv 35 (by kernel_rfl) (fun w1 c1 => (om (v := .map (some _)) rfl)) ?_
      refine lv 36 (by kernel_rfl) (fun w1 c1 => (oF (m := 1) (k := 1) rfl (by kernel_rfl) rfl)) ?_
      refine lv 37 (by kernel_rfl) (fun w1 c1 => (ol rfl (by kernel_rfl) (c1.cell 0 (u := .int .i64 _) rfl rfl))) ?_
      refine lm_ck (fun h243 => ?_)
      refine lv 38 (by kernel_rfl) (fun w1 c1 => (op_lookupOk (κ := Int) (α := Int) (ek := (Value.int .i64)) (ev := (Value.int .i64)) (l := s218.1) (y := ((ix p0 (ix r136 s218.2.2)).Container)) (0 : Int) rfl rfl (Maps.int_keyed Tryz.underlying3) (ek_int .i64) (key_i64 Tryz.underlying3 h243) Tryz.underlying147 rfl (c1.map 1 rfl))) ?_
      refine lv 34 (by kernel_rfl) (fun w1 c1 => (om (v := .tuple _) rfl)) ?_
      refine lv 39 (by kernel_rfl) (fun w1 c1 => (op_extract (v := .int .i64 _) rfl rfl)) ?_
      refine lv 40 (by kernel_rfl) (fun w1 c1 => (op_extract (v := .bool _) rfl rfl)) ?_
      refine lv 12 (by kernel_rfl) (fun w1 c1 => (oa (v := .int .i64 _) rfl)) ?_
      refine lv 13 (by kernel_rfl) (fun w1 c1 => (oa (v := .bool _) rfl)) ?_
      refine ln ?_
      refine xn ?_
      refine cq ?_
      refine cq ?_
      refine cm_ck (fun h244 => ?_)
      refine cm_cutE [(53, .bool (((ix p0 (ix r136 s218.2.2)).Void) || ((Option.isSome (mget s218.1 ((ix p0 (ix r136 s218.2.2)).Container))) && (decide ((((ix p0 (ix r136 s218.2.2)).At) - (Option.getD (mget s218.1 ((ix p0 (ix r136 s218.2.2)).Container)) (0 : Int))) ≤ p1)))))] ?_ ?_
      ·skip
       refine wv 41 (by kernel_rfl) (fun w1 c1 => (oF (m := 6) (k := 6) rfl (by kernel_rfl) rfl)) ?_
       refine wq_bool 42 (by kernel_rfl) (fun w1 c1 => (ol rfl (by kernel_rfl) (c1.cell 0 (u := .bool _) rfl rfl))) (fun h245 => ?_) (fun h245 => ?_)
       ·skip
        refine wv 43 (by kernel_rfl) (fun w1 c1 => (om (v := .bool true) rfl)) ?_
        refine wk 44 (by kernel_rfl) ?_
        refine wk 45 (by kernel_rfl) ?_
        refine wk 46 (by kernel_rfl) ?_
        refine wk 47 (by kernel_rfl) ?_
        refine wk 48 (by kernel_rfl) ?_
        refine wk 49 (by kernel_rfl) ?_
        refine wk 50 (by kernel_rfl) ?_
        refine wk 51 (by kernel_rfl) ?_
        refine wk 52 (by kernel_rfl) ?_
        refine wv 53 (by kernel_rfl) (fun w1 c1 => (opt (v := .bool true) rfl rfl)) ?_
        exact leaf_q (sub_out 13 _ rfl (by kernel_rfl) ⟨(congrArg Value.bool (by rw [h245] <;> rfl)), trivial⟩)
       ·skip
        refine wv 43 (by kernel_rfl) (fun w1 c1 => (om (v := .bool false) rfl)) ?_
        refine wq_bool 44 (by kernel_rfl) (fun w1 c1 => (om (v := .bool _) rfl)) (fun h246 => ?_) (fun h246 => ?_)
        ·skip
         refine wv 45 (by kernel_rfl) (fun w1 c1 => (om (v := .bool true) rfl)) ?_
         refine wv 46 (by kernel_rfl) (fun w1 c1 => (oF (m := 3) (k := 3) rfl (by kernel_rfl) rfl)) ?_
         refine wv 47 (by kernel_rfl) (fun w1 c1 => (ol rfl (by kernel_rfl) (c1.cell 0 (u := .int .i64 _) rfl rfl))) ?_
         refine wv 48 (by kernel_rfl) (fun w1 c1 => (om (v := .int .i64 _) rfl)) ?_
         refine wv 49 (by kernel_rfl) (fun w1 c1 => (op_sub rfl rfl (h244 (by rw [h245, h246] <;> rfl)))) ?_
         refine wv 50 (by kernel_rfl) (fun w1 c1 => (om (v := .int .i64 _) rfl)) ?_
         refine wv 51 (by kernel_rfl) (fun w1 c1 => (op_leq rfl rfl)) ?_
         refine wv 52 (by kernel_rfl) (fun w1 c1 => (opt (v := .bool _) rfl rfl)) ?_
         refine wv 53 (by kernel_rfl) (fun w1 c1 => (opf (v := .bool _) rfl rfl)) ?_
         exact leaf_q (sub_out 13 _ rfl (by kernel_rfl) ⟨(congrArg Value.bool (by rw [h245, h246] <;> rfl)), trivial⟩)
        ·skip
         refine wv 45 (by kernel_rfl) (fun w1 c1 => (om (v := .bool false) rfl)) ?_
         refine wk 46 (by kernel_rfl) ?_
         refine wk 47 (by kernel_rfl) ?_
         refine wk 48 (by kernel_rfl) ?_
         refine wk 49 (by kernel_rfl) ?_
         refine wk 50 (by kernel_rfl) ?_
         refine wk 51 (by kernel_rfl) ?_
         refine wv 52 (by kernel_rfl) (fun w1 c1 => (opf (v := .bool false) rfl rfl)) ?_
         refine wv 53 (by kernel_rfl) (fun w1 c1 => (opf (v := .bool false) rfl rfl)) ?_
         exact leaf_q (sub_out 13 _ rfl (by kernel_rfl) ⟨(congrArg Value.bool (by rw [h245, h246] <;> rfl)), trivial⟩)
      refine xn ?_
      refine cm_condB (by kernel_rfl) rfl (fun h247 => ?_) (fun h247 => ?_)
      ·skip
       refine cm_exit ?_
       refine xm_thenE ?_
       refine xm_here ?_
       exact xm_lnext (u219.1, u219.2.1, u219.2.2) (sc (by kernel_rfl) rfl (sc (by kernel_rfl) rfl (sc (by kernel_rfl) rfl (sc (by kernel_rfl) rfl (sc (by kernel_rfl) rfl (sc (by kernel_rfl) rfl (sc (by kernel_rfl) rfl sub_nil))))))) (hsub [1, 2, 3] (by kernel_rfl) rfl)
      ·skip
       refine cm_skip ?_
       refine xn ?_
       refine cq ?_
       refine cr ?_
       refine lv 54 (by kernel_rfl) (fun w1 c1 => (om (v := .map (some _)) rfl)) ?_
       refine lv 55 (by kernel_rfl) (fun w1 c1 => (oF (m := 1) (k := 1) rfl (by kernel_rfl) rfl)) ?_
       refine lv 56 (by kernel_rfl) (fun w1 c1 => (ol rfl (by kernel_rfl) (c1.cell 0 (u := .int .i64 _) rfl rfl))) ?_
       refine lv 57 (by kernel_rfl) (fun w1 c1 => (oF (m := 3) (k := 3) rfl (by kernel_rfl) rfl)) ?_
       refine lv 58 (by kernel_rfl) (fun w1 c1 => (ol rfl (by kernel_rfl) (c1.cell 0 (u := .int .i64 _) rfl rfl))) ?_
       refine lm_ck (fun h248 => ?_)
       refine lm_mapUpdate 1 (κ := Int) (α := Int) (ek := (Value.int .i64)) (ev := (Value.int .i64)) (l := s218.1) (y := ((ix p0 (ix r136 s218.2.2)).Container)) (a := ((ix p0 (ix r136 s218.2.2)).At)) (by kernel_rfl) rfl rfl rfl (Maps.int_keyed Tryz.underlying3) (ek_int .i64) (key_i64 Tryz.underlying3 h248) Tryz.underlying147 rfl rfl ?_
       refine ln ?_
       refine xn ?_
       refine cr ?_
       refine lv 59 (by kernel_rfl) (fun w1 c1 => (om (v := .slice _ _ _) rfl)) ?_
       refine lv 60 (by kernel_rfl) (fun w1 c1 => (om (v := .int .i64 _) rfl)) ?_
       refine lm_slice1 61 (el := 3) (sz := 1) (bytes := 8) (enc := encI) (ix r136 s218.2.2) (by kernel_rfl) (by kernel_rfl) encI_len rfl (by kernel_rfl) ?_
       intro A249 n250 k251 h252
       refine lm_ck (fun h253 => ?_)
       refine lm_append 62 3 (el := 3) (sz := 1) (bytes := 8) (enc := encI) (l2 := ([(ix r136 s218.2.2)])) (by kernel_rfl) (by kernel_rfl) encI_len encI_one rfl rfl rfl (fun w1 c1 => (c1.ownZ 0 rfl)) (fun w1 c1 => (c1.own 0 rfl encI_len)) h253 ?_ (by kernel_rfl)
       intro A254 n255 k256
       refine lv 8 (by kernel_rfl) (fun w1 c1 => (oa (v := .slice _ _ _) rfl)) ?_
       refine ln ?_
       refine xm_inN ?_
       exact xm_lnext (A254, n255, k256) (sc (by kernel_rfl) rfl (sc (by kernel_rfl) rfl (sc (by kernel_rfl) rfl (sc (by kernel_rfl) rfl (sc (by kernel_rfl) rfl (sc (by kernel_rfl) rfl (sc (by kernel_rfl) rfl sub_nil))))))) (hsub [2, 3, 4] (by kernel_rfl) rfl)
     intro s238 u239
     refine cr ?_
     refine lm_ck (fun h257 => ?_)
     refine lv 63 (by kernel_rfl) (fun w1 c1 => (op_add rfl rfl h257)) ?_
     refine lv 26 (by kernel_rfl) (fun w1 c1 => (om (v := .int .i64 _) rfl)) ?_
     refine ln ?_
     exact xm_lnext (u239.1, u239.2.1, u239.2.2) (sc (by kernel_rfl) rfl (sc (by kernel_rfl) rfl (sc (by kernel_rfl) rfl (sc (by kernel_rfl) rfl (sc (by kernel_rfl) rfl (sc (by kernel_rfl) rfl (sc (by kernel_rfl) rfl sub_nil))))))) (hsub [0, 1, 2] (by kernel_rfl) rfl)
    ·skip
     refine cm_exit ?_
     refine xm_thenE ?_
     refine xm_lexit ?_
     refine xm_here ?_
     exact xm_lnext (u219.1, u219.2.1, u219.2.2) (sc (by kernel_rfl) rfl sub_nil) (hsub [1] (by kernel_rfl) rfl)
   intro s134 u135
   refine cq ?_
   refine cr ?_
   refine lv 64 (by kernel_rfl) (fun w1 c1 => (om (v := .slice _ _ _) rfl)) ?_
   refine lv 4 (by kernel_rfl) (fun w1 c1 => (oa (v := .slice _ _ _) rfl)) ?_
   refine lv 5 (by kernel_rfl) (fun w1 c1 => (oa (v := .int .i64 _) rfl)) ?_
   refine ln ?_
   refine xn ?_
   refine cm_ret ?_
   exact xm_retTT rfl (by kernel_rfl) (show _ = Value.slice _ _ _ from rfl) (by kernel_rfl) (show _ = Value.int .i64 _ from rfl) fun w1 c1 => ⟨(u135.1, u135.2.1, u135.2.2), rfl, hsub [0] (by kernel_rfl) rfl w1 c1⟩
end Go.Proofs.YtljogldcejcikaaGreat
