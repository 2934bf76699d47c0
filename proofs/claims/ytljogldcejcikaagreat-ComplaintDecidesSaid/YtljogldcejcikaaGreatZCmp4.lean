/- Models of functions, and that the code follows them. Written by deco.py. -/
import Derived.Test.YtljogldcejcikaaGreatZCmp3
namespace Go.Proofs.YtljogldcejcikaaGreat
open Go.RowKit

/-- complaint.Check -/
def m_complaint_Check (_N : Nat) (p0 : ApiComplaint) : Option (Int) :=
 (if ((((((decide (p0.Bill < 1)) || (decide (1000000 < p0.Bill))) || (decide (p0.Item < 0))) || (decide (512 ≤ p0.Item))) || (decide (p0.At < 0))) || (decide (3155759999 < p0.At))) = true then
  some ((1 : Int))
 else
  (if ((decide (p0.Kind < 1)) || (decide (3 < p0.Kind))) = true then
   some ((21 : Int))
  else
   some ((0 : Int))))
set_option maxHeartbeats 2000000 in
set_option maxRecDepth 20000 in
theorem m_complaint_Check_ok (N : Nat) (w0 : World) (p0 : ApiComplaint)   (r : Int) (hr : m_complaint_Check N p0 = some r) :
  Calls Tryz.prog 11 [.agg #[.int .i64 p0.Bill, .int .i64 p0.Item, .int .i64 p0.At, .int .i64 p0.Kind]].toArray w0 fun x w1 => ∃ u, x = .returned ((fun (r : Int) (_u : Unit) => .int .i64 r) r u) ∧ Hs w0 ((fun (_r : Int) (_u : Unit) => []) r u) w1 := by
 refine calls_cm (n := 39) (R := fun r x w1 => ∃ u, x = .returned ((fun (r : Int) (_u : Unit) => .int .i64 r) r u) ∧ Hs w0 ((fun (_r : Int) (_u : Unit) => []) r u) w1) Tryz.func11 rfl rfl (Nat.le_of_ble_eq_true rfl) ?_ r hr
 unfold m_complaint_Check
 refine cq ?_
 refine cr ?_
 refine lm_box 1 [.int .i64 _, .int .i64 _, .int .i64 _, .int .i64 _] (by kernel_rfl) rfl ?_
 intro b5
 refine lv 2 (by kernel_rfl) (fun w1 c1 => (oa (v := .int .i64 _) rfl)) ?_
 refine ln ?_
 refine xn ?_
 refine cq ?_
 refine cq ?_
 refine cm_cutE [(30, .bool ((((((decide (p0.Bill < 1)) || (decide (1000000 < p0.Bill))) || (decide (p0.Item < 0))) || (decide (512 ≤ p0.Item))) || (decide (p0.At < 0))) || (decide (3155759999 < p0.At))))] ?_ ?_
 ·skip
  refine wv 3 (by kernel_rfl) (fun w1 c1 => (oF (m := 0) (k := 0) rfl (by kernel_rfl) rfl)) ?_
  refine wv 4 (by kernel_rfl) (fun w1 c1 => (ol rfl (by kernel_rfl) (c1.cell 0 (u := .int .i64 _) rfl rfl))) ?_
  refine wq_dec 5 (by kernel_rfl) (fun w1 c1 => (op_lss rfl rfl)) (fun h6 => ?_) (fun h6 => ?_)
  ·skip
   refine wv 6 (by kernel_rfl) (fun w1 c1 => (om (v := .bool true) rfl)) ?_
   refine wk 7 (by kernel_rfl) ?_
   refine wk 8 (by kernel_rfl) ?_
   refine wk 9 (by kernel_rfl) ?_
   refine wv 10 (by kernel_rfl) (fun w1 c1 => (opt (v := .bool true) rfl rfl)) ?_
   refine wv 11 (by kernel_rfl) (fun w1 c1 => (om (v := .bool true) rfl)) ?_
   refine wk 12 (by kernel_rfl) ?_
   refine wk 13 (by kernel_rfl) ?_
   refine wk 14 (by kernel_rfl) ?_
   refine wv 15 (by kernel_rfl) (fun w1 c1 => (opt (v := .bool true) rfl rfl)) ?_
   refine wv 16 (by kernel_rfl) (fun w1 c1 => (om (v := .bool true) rfl)) ?_
   refine wk 17 (by kernel_rfl) ?_
   refine wk 18 (by kernel_rfl) ?_
   refine wk 19 (by kernel_rfl) ?_
   refine wv 20 (by kernel_rfl) (fun w1 c1 => (opt (v := .bool true) rfl rfl)) ?_
   refine wv 21 (by kernel_rfl) (fun w1 c1 => (om (v := .bool true) rfl)) ?_
   refine wk 22 (by kernel_rfl) ?_
   refine wk 23 (by kernel_rfl) ?_
   refine wk 24 (by kernel_rfl) ?_
   refine wv 25 (by kernel_rfl) (fun w1 c1 => (opt (v := .bool true) rfl rfl)) ?_
   refine wv 26 (by kernel_rfl) (fun w1 c1 => (om (v := .bool true) rfl)) ?_
   refine wk 27 (by kernel_rfl) ?_
   refine wk 28 (by kernel_rfl) ?_
   refine wk 29 (by kernel_rfl) ?_
   refine wv 30 (by kernel_rfl) (fun w1 c1 => (opt (v := .bool true) rfl rfl)) ?_
   exact leaf_q (sub_out 28 _ rfl (by kernel_rfl) ⟨(congrArg Value.bool (by rw [decide_eq_true h6] <;> rfl)), trivial⟩)
  ·skip
   refine wv 6 (by kernel_rfl) (fun w1 c1 => (om (v := .bool false) rfl)) ?_
   refine wv 7 (by kernel_rfl) (fun w1 c1 => (oF (m := 0) (k := 0) rfl (by kernel_rfl) rfl)) ?_
   refine wv 8 (by kernel_rfl) (fun w1 c1 => (ol rfl (by kernel_rfl) (c1.cell 0 (u := .int .i64 _) rfl rfl))) ?_
   refine wq_dec 9 (by kernel_rfl) (fun w1 c1 => (op_gtr rfl rfl)) (fun h7 => ?_) (fun h7 => ?_)
   ·skip
    refine wv 10 (by kernel_rfl) (fun w1 c1 => (opf (v := .bool true) rfl rfl)) ?_
    refine wv 11 (by kernel_rfl) (fun w1 c1 => (om (v := .bool true) rfl)) ?_
    refine wk 12 (by kernel_rfl) ?_
    refine wk 13 (by kernel_rfl) ?_
    refine wk 14 (by kernel_rfl) ?_
    refine wv 15 (by kernel_rfl) (fun w1 c1 => (opt (v := .bool true) rfl rfl)) ?_
    refine wv 16 (by kernel_rfl) (fun w1 c1 => (om (v := .bool true) rfl)) ?_
    refine wk 17 (by kernel_rfl) ?_
    refine wk 18 (by kernel_rfl) ?_
    refine wk 19 (by kernel_rfl) ?_
    refine wv 20 (by kernel_rfl) (fun w1 c1 => (opt (v := .bool true) rfl rfl)) ?_
    refine wv 21 (by kernel_rfl) (fun w1 c1 => (om (v := .bool true) rfl)) ?_
    refine wk 22 (by kernel_rfl) ?_
    refine wk 23 (by kernel_rfl) ?_
    refine wk 24 (by kernel_rfl) ?_
    refine wv 25 (by kernel_rfl) (fun w1 c1 => (opt (v := .bool true) rfl rfl)) ?_
    refine wv 26 (by kernel_rfl) (fun w1 c1 => (om (v := .bool true) rfl)) ?_
    refine wk 27 (by kernel_rfl) ?_
    refine wk 28 (by kernel_rfl) ?_
    refine wk 29 (by kernel_rfl) ?_
    refine wv 30 (by kernel_rfl) (fun w1 c1 => (opt (v := .bool true) rfl rfl)) ?_
    exact leaf_q (sub_out 28 _ rfl (by kernel_rfl) ⟨(congrArg Value.bool (by rw [decide_eq_false h6, decide_eq_true h7] <;> rfl)), trivial⟩)
   ·skip
    refine wv 10 (by kernel_rfl) (fun w1 c1 => (opf (v := .bool false) rfl rfl)) ?_
    refine wv 11 (by kernel_rfl) (fun w1 c1 => (om (v := .bool false) rfl)) ?_
    refine wv 12 (by kernel_rfl) (fun w1 c1 => (oF (m := 1) (k := 1) rfl (by kernel_rfl) rfl)) ?_
    refine wv 13 (by kernel_rfl) (fun w1 c1 => (ol rfl (by kernel_rfl) (c1.cell 0 (u := .int .i64 _) rfl rfl))) ?_
    refine wq_dec 14 (by kernel_rfl) (fun w1 c1 => (op_lss rfl rfl)) (fun h8 => ?_) (fun h8 => ?_)
    ·skip
     refine wv 15 (by kernel_rfl) (fun w1 c1 => (opf (v := .bool true) rfl rfl)) ?_
     refine wv 16 (by kernel_rfl) (fun w1 c1 => (om (v := .bool true) rfl)) ?_
     refine wk 17 (by kernel_rfl) ?_
     refine wk 18 (by kernel_rfl) ?_
     refine wk 19 (by kernel_rfl) ?_
     refine wv 20 (by kernel_rfl) (fun w1 c1 => (opt (v := .bool true) rfl rfl)) ?_
     refine wv 21 (by kernel_rfl) (fun w1 c1 => (om (v := .bool true) rfl)) ?_
     refine wk 22 (by kernel_rfl) ?_
     refine wk 23 (by kernel_rfl) ?_
     refine wk 24 (by kernel_rfl) ?_
     refine wv 25 (by kernel_rfl) (fun w1 c1 => (opt (v := .bool true) rfl rfl)) ?_
     refine wv 26 (by kernel_rfl) (fun w1 c1 => (om (v := .bool true) rfl)) ?_
     refine wk 27 (by kernel_rfl) ?_
     refine wk 28 (by kernel_rfl) ?_
     refine wk 29 (by kernel_rfl) ?_
     refine wv 30 (by kernel_rfl) (fun w1 c1 => (opt (v := .bool true) rfl rfl)) ?_
     exact leaf_q (sub_out 28 _ rfl (by kernel_rfl) ⟨(congrArg Value.bool (by rw [decide_eq_false h6, decide_eq_false h7, decide_eq_true h8] <;> rfl)), trivial⟩)
    ·skip
     refine wv 15 (by kernel_rfl) (fun w1 c1 => (opf (v := .bool false) rfl rfl)) ?_
     refine wv 16 (by kernel_rfl) (fun w1 c1 => (om (v := .bool false) rfl)) ?_
     refine wv 17 (by kernel_rfl) (fun w1 c1 => (oF (m := 1) (k := 1) rfl (by kernel_rfl) rfl)) ?_
     refine wv 18 (by kernel_rfl) (fun w1 c1 => (ol rfl (by kernel_rfl) (c1.cell 0 (u := .int .i64 _) rfl rfl))) ?_
     refine wq_dec 19 (by kernel_rfl) (fun w1 c1 => (op_geq rfl rfl)) (fun h9 => ?_) (fun h9 => ?_)
     ·skip
      refine wv 20 (by kernel_rfl) (fun w1 c1 => (opf (v := .bool true) rfl rfl)) ?_
      refine wv 21 (by kernel_rfl) (fun w1 c1 => (om (v := .bool true) rfl)) ?_
      refine wk 22 (by kernel_rfl) ?_
      refine wk 23 (by kernel_rfl) ?_
      refine wk 24 (by kernel_rfl) ?_
      refine wv 25 (by kernel_rfl) (fun w1 c1 => (opt (v := .bool true) rfl rfl)) ?_
      refine wv 26 (by kernel_rfl) (fun w1 c1 => (om (v := .bool true) rfl)) ?_
      refine wk 27 (by kernel_rfl) ?_
      refine wk 28 (by kernel_rfl) ?_
      refine wk 29 (by kernel_rfl) ?_
      refine wv 30 (by kernel_rfl) (fun w1 c1 => (opt (v := .bool true) rfl rfl)) ?_
      exact leaf_q (sub_out 28 _ rfl (by kernel_rfl) ⟨(congrArg Value.bool (by rw [decide_eq_false h6, decide_eq_false h7, decide_eq_false h8, decide_eq_true h9] <;> rfl)), trivial⟩)
     ·skip
      refine wv 20 (by kernel_rfl) (fun w1 c1 => (opf (v := .bool false) rfl rfl)) ?_
      refine wv 21 (by kernel_rfl) (fun w1 c1 => (om (v := .bool false) rfl)) ?_
      refine wv 22 (by kernel_rfl) (fun w1 c1 => (oF (m := 2) (k := 2) rfl (by kernel_rfl) rfl)) ?_
      refine wv 23 (by kernel_rfl) (fun w1 c1 => (ol rfl (by kernel_rfl) (c1.cell 0 (u := .int .i64 _) rfl rfl))) ?_
      refine wq_dec 24 (by kernel_rfl) (fun w1 c1 => (op_lss rfl rfl)) (fun h10 => ?_) (fun h10 => ?_)
      ·skip
       refine wv 25 (by kernel_rfl) (fun w1 c1 => (opf (v := .bool true) rfl rfl)) ?_
       refine wv 26 (by kernel_rfl) (fun w1 c1 => (om (v := .bool true) rfl)) ?_
       refine wk 27 (by kernel_rfl) ?_
       refine wk 28 (by kernel_rfl) ?_
       refine wk 29 (by kernel_rfl) ?_
       refine wv 30 (by kernel_rfl) (fun w1 c1 => (opt (v := .bool true) rfl rfl)) ?_
       exact leaf_q (sub_out 28 _ rfl (by kernel_rfl) ⟨(congrArg Value.bool (by rw [decide_eq_false h6, decide_eq_false h7, decide_eq_false h8, decide_eq_false h9, decide_eq_true h10] <;> rfl)), trivial⟩)
      ·skip
       refine wv 25 (by kernel_rfl) (fun w1 c1 => (opf (v := .bool false) rfl rfl)) ?_
       refine wv 26 (by kernel_rfl) (fun w1 c1 => (om (v := .bool false) rfl)) ?_
       refine wv 27 (by kernel_rfl) (fun w1 c1 => (oF (m := 2) (k := 2) rfl (by kernel_rfl) rfl)) ?_
       refine wv 28 (by kernel_rfl) (fun w1 c1 => (ol rfl (by kernel_rfl) (c1.cell 0 (u := .int .i64 _) rfl rfl))) ?_
       refine wv 29 (by kernel_rfl) (fun w1 c1 => (op_gtr rfl rfl)) ?_
       refine wv 30 (by kernel_rfl) (fun w1 c1 => (opf (v := .bool _) rfl rfl)) ?_
       exact leaf_q (sub_out 28 _ rfl (by kernel_rfl) ⟨(congrArg Value.bool (by rw [decide_eq_false h6, decide_eq_false h7, decide_eq_false h8, decide_eq_false h9, decide_eq_false h10] <;> rfl)), trivial⟩)
 refine xn ?_
 refine cm_condB (by kernel_rfl) rfl (fun h11 => ?_) (fun h11 => ?_)
 ·skip
  refine cq ?_
  refine cr ?_
  refine lv 2 (by kernel_rfl) (fun w1 c1 => (oa (v := .int .i64 _) rfl)) ?_
  refine ln ?_
  refine xn ?_
  refine cm_ret ?_
  refine xm_thenR ?_
  exact xm_retT rfl (by kernel_rfl) (show _ = Value.int .i64 _ from rfl) fun w1 c1 => ⟨(), rfl, hsub [] (by kernel_rfl) rfl w1 c1⟩
 ·skip
  refine cm_skip ?_
  refine xn ?_
  refine cq ?_
  refine cq ?_
  refine cm_cutE [(38, .bool ((decide (p0.Kind < 1)) || (decide (3 < p0.Kind))))] ?_ ?_
  ·skip
   refine wv 31 (by kernel_rfl) (fun w1 c1 => (oF (m := 3) (k := 3) rfl (by kernel_rfl) rfl)) ?_
   refine wv 32 (by kernel_rfl) (fun w1 c1 => (ol rfl (by kernel_rfl) (c1.cell 0 (u := .int .i64 _) rfl rfl))) ?_
   refine wq_dec 33 (by kernel_rfl) (fun w1 c1 => (op_lss rfl rfl)) (fun h12 => ?_) (fun h12 => ?_)
   ·skip
    refine wv 34 (by kernel_rfl) (fun w1 c1 => (om (v := .bool true) rfl)) ?_
    refine wk 35 (by kernel_rfl) ?_
    refine wk 36 (by kernel_rfl) ?_
    refine wk 37 (by kernel_rfl) ?_
    refine wv 38 (by kernel_rfl) (fun w1 c1 => (opt (v := .bool true) rfl rfl)) ?_
    exact leaf_q (sub_out 8 _ rfl (by kernel_rfl) ⟨(congrArg Value.bool (by rw [decide_eq_true h12] <;> rfl)), trivial⟩)
   ·skip
    refine wv 34 (by kernel_rfl) (fun w1 c1 => (om (v := .bool false) rfl)) ?_
    refine wv 35 (by kernel_rfl) (fun w1 c1 => (oF (m := 3) (k := 3) rfl (by kernel_rfl) rfl)) ?_
    refine wv 36 (by kernel_rfl) (fun w1 c1 => (ol rfl (by kernel_rfl) (c1.cell 0 (u := .int .i64 _) rfl rfl))) ?_
    refine wv 37 (by kernel_rfl) (fun w1 c1 => (op_gtr rfl rfl)) ?_
    refine wv 38 (by kernel_rfl) (fun w1 c1 => (opf (v := .bool _) rfl rfl)) ?_
    exact leaf_q (sub_out 8 _ rfl (by kernel_rfl) ⟨(congrArg Value.bool (by rw [decide_eq_false h12] <;> rfl)), trivial⟩)
  refine xn ?_
  refine cm_condB (by kernel_rfl) rfl (fun h13 => ?_) (fun h13 => ?_)
  ·skip
   refine cq ?_
   refine cr ?_
   refine lv 2 (by kernel_rfl) (fun w1 c1 => (oa (v := .int .i64 _) rfl)) ?_
   refine ln ?_
   refine xn ?_
   refine cm_ret ?_
   refine xm_thenR ?_
   exact xm_retT rfl (by kernel_rfl) (show _ = Value.int .i64 _ from rfl) fun w1 c1 => ⟨(), rfl, hsub [] (by kernel_rfl) rfl w1 c1⟩
  ·skip
   refine cm_skip ?_
   refine xn ?_
   refine cq ?_
   refine cr ?_
   refine lv 2 (by kernel_rfl) (fun w1 c1 => (oa (v := .int .i64 _) rfl)) ?_
   refine ln ?_
   refine xn ?_
   refine cm_ret ?_
   exact xm_retT rfl (by kernel_rfl) (show _ = Value.int .i64 _ from rfl) fun w1 c1 => ⟨(), rfl, hsub [] (by kernel_rfl) rfl w1 c1⟩
/-- recyclingref57.Check -/
def m_recyclingref57_Check (_N : Nat) (p0 : ApiComplaint) : Option (Int) :=
 (if ((((((decide (p0.Bill < 1)) || (decide (1000000 < p0.Bill))) || (decide (p0.Item < 0))) || (decide (512 ≤ p0.Item))) || (decide (p0.At < 0))) || (decide (3155759999 < p0.At))) = true then
  some ((1 : Int))
 else
  (if ((decide (p0.Kind < 1)) || (decide (3 < p0.Kind))) = true then
   some ((21 : Int))
  else
   some ((0 : Int))))
set_option maxHeartbeats 2000000 in
set_option maxRecDepth 20000 in
theorem m_recyclingref57_Check_ok (N : Nat) (w0 : World) (p0 : ApiComplaint)   (r : Int) (hr : m_recyclingref57_Check N p0 = some r) :
  Calls Tryz.prog 17 [.agg #[.int .i64 p0.Bill, .int .i64 p0.Item, .int .i64 p0.At, .int .i64 p0.Kind]].toArray w0 fun x w1 => ∃ u, x = .returned ((fun (r : Int) (_u : Unit) => .int .i64 r) r u) ∧ Hs w0 ((fun (_r : Int) (_u : Unit) => []) r u) w1 := by
 refine calls_cm (n := 39) (R := fun r x w1 => ∃ u, x = .returned ((fun (r : Int) (_u : Unit) => .int .i64 r) r u) ∧ Hs w0 ((fun (_r : Int) (_u : Unit) => []) r u) w1) Tryz.func17 rfl rfl (Nat.le_of_ble_eq_true rfl) ?_ r hr
 unfold m_recyclingref57_Check
 refine cq ?_
 refine cr ?_
 refine lm_box 1 [.int .i64 _, .int .i64 _, .int .i64 _, .int .i64 _] (by kernel_rfl) rfl ?_
 intro b5
 refine lv 2 (by kernel_rfl) (fun w1 c1 => (oa (v := .int .i64 _) rfl)) ?_
 refine ln ?_
 refine xn ?_
 refine cq ?_
 refine cq ?_
 refine cm_cutE [(30, .bool ((((((decide (p0.Bill < 1)) || (decide (1000000 < p0.Bill))) || (decide (p0.Item < 0))) || (decide (512 ≤ p0.Item))) || (decide (p0.At < 0))) || (decide (3155759999 < p0.At))))] ?_ ?_
 ·skip
  refine wv 3 (by kernel_rfl) (fun w1 c1 => (oF (m := 0) (k := 0) rfl (by kernel_rfl) rfl)) ?_
  refine wv 4 (by kernel_rfl) (fun w1 c1 => (ol rfl (by kernel_rfl) (c1.cell 0 (u := .int .i64 _) rfl rfl))) ?_
  refine wq_dec 5 (by kernel_rfl) (fun w1 c1 => (op_lss rfl rfl)) (fun h6 => ?_) (fun h6 => ?_)
  ·skip
   refine wv 6 (by kernel_rfl) (fun w1 c1 => (om (v := .bool true) rfl)) ?_
   refine wk 7 (by kernel_rfl) ?_
   refine wk 8 (by kernel_rfl) ?_
   refine wk 9 (by kernel_rfl) ?_
   refine wv 10 (by kernel_rfl) (fun w1 c1 => (opt (v := .bool true) rfl rfl)) ?_
   refine wv 11 (by kernel_rfl) (fun w1 c1 => (om (v := .bool true) rfl)) ?_
   refine wk 12 (by kernel_rfl) ?_
   refine wk 13 (by kernel_rfl) ?_
   refine wk 14 (by kernel_rfl) ?_
   refine wv 15 (by kernel_rfl) (fun w1 c1 => (opt (v := .bool true) rfl rfl)) ?_
   refine wv 16 (by kernel_rfl) (fun w1 c1 => (om (v := .bool true) rfl)) ?_
   refine wk 17 (by kernel_rfl) ?_
   refine wk 18 (by kernel_rfl) ?_
   refine wk 19 (by kernel_rfl) ?_
   refine wv 20 (by kernel_rfl) (fun w1 c1 => (opt (v := .bool true) rfl rfl)) ?_
   refine wv 21 (by kernel_rfl) (fun w1 c1 => (om (v := .bool true) rfl)) ?_
   refine wk 22 (by kernel_rfl) ?_
   refine wk 23 (by kernel_rfl) ?_
   refine wk 24 (by kernel_rfl) ?_
   refine wv 25 (by kernel_rfl) (fun w1 c1 => (opt (v := .bool true) rfl rfl)) ?_
   refine wv 26 (by kernel_rfl) (fun w1 c1 => (om (v := .bool true) rfl)) ?_
   refine wk 27 (by kernel_rfl) ?_
   refine wk 28 (by kernel_rfl) ?_
   refine wk 29 (by kernel_rfl) ?_
   refine wv 30 (by kernel_rfl) (fun w1 c1 => (opt (v := .bool true) rfl rfl)) ?_
   exact leaf_q (sub_out 28 _ rfl (by kernel_rfl) ⟨(congrArg Value.bool (by rw [decide_eq_true h6] <;> rfl)), trivial⟩)
  ·skip
   refine wv 6 (by kernel_rfl) (fun w1 c1 => (om (v := .bool false) rfl)) ?_
   refine wv 7 (by kernel_rfl) (fun w1 c1 => (oF (m := 0) (k := 0) rfl (by kernel_rfl) rfl)) ?_
   refine wv 8 (by kernel_rfl) (fun w1 c1 => (ol rfl (by kernel_rfl) (c1.cell 0 (u := .int .i64 _) rfl rfl))) ?_
   refine wq_dec 9 (by kernel_rfl) (fun w1 c1 => (op_gtr rfl rfl)) (fun h7 => ?_) (fun h7 => ?_)
   ·skip
    refine wv 10 (by kernel_rfl) (fun w1 c1 => (opf (v := .bool true) rfl rfl)) ?_
    refine wv 11 (by kernel_rfl) (fun w1 c1 => (om (v := .bool true) rfl)) ?_
    refine wk 12 (by kernel_rfl) ?_
    refine wk 13 (by kernel_rfl) ?_
    refine wk 14 (by kernel_rfl) ?_
    refine wv 15 (by kernel_rfl) (fun w1 c1 => (opt (v := .bool true) rfl rfl)) ?_
    refine wv 16 (by kernel_rfl) (fun w1 c1 => (om (v := .bool true) rfl)) ?_
    refine wk 17 (by kernel_rfl) ?_
    refine wk 18 (by kernel_rfl) ?_
    refine wk 19 (by kernel_rfl) ?_
    refine wv 20 (by kernel_rfl) (fun w1 c1 => (opt (v := .bool true) rfl rfl)) ?_
    refine wv 21 (by kernel_rfl) (fun w1 c1 => (om (v := .bool true) rfl)) ?_
    refine wk 22 (by kernel_rfl) ?_
    refine wk 23 (by kernel_rfl) ?_
    refine wk 24 (by kernel_rfl) ?_
    refine wv 25 (by kernel_rfl) (fun w1 c1 => (opt (v := .bool true) rfl rfl)) ?_
    refine wv 26 (by kernel_rfl) (fun w1 c1 => (om (v := .bool true) rfl)) ?_
    refine wk 27 (by kernel_rfl) ?_
    refine wk 28 (by kernel_rfl) ?_
    refine wk 29 (by kernel_rfl) ?_
    refine wv 30 (by kernel_rfl) (fun w1 c1 => (opt (v := .bool true) rfl rfl)) ?_
    exact leaf_q (sub_out 28 _ rfl (by kernel_rfl) ⟨(congrArg Value.bool (by rw [decide_eq_false h6, decide_eq_true h7] <;> rfl)), trivial⟩)
   ·skip
    refine wv 10 (by kernel_rfl) (fun w1 c1 => (opf (v := .bool false) rfl rfl)) ?_
    refine wv 11 (by kernel_rfl) (fun w1 c1 => (om (v := .bool false) rfl)) ?_
    refine wv 12 (by kernel_rfl) (fun w1 c1 => (oF (m := 1) (k := 1) rfl (by kernel_rfl) rfl)) ?_
    refine wv 13 (by kernel_rfl) (fun w1 c1 => (ol rfl (by kernel_rfl) (c1.cell 0 (u := .int .i64 _) rfl rfl))) ?_
    refine wq_dec 14 (by kernel_rfl) (fun w1 c1 => (op_lss rfl rfl)) (fun h8 => ?_) (fun h8 => ?_)
    ·skip
     refine wv 15 (by kernel_rfl) (fun w1 c1 => (opf (v := .bool true) rfl rfl)) ?_
     refine wv 16 (by kernel_rfl) (fun w1 c1 => (om (v := .bool true) rfl)) ?_
     refine wk 17 (by kernel_rfl) ?_
     refine wk 18 (by kernel_rfl) ?_
     refine wk 19 (by kernel_rfl) ?_
     refine wv 20 (by kernel_rfl) (fun w1 c1 => (opt (v := .bool true) rfl rfl)) ?_
     refine wv 21 (by kernel_rfl) (fun w1 c1 => (om (v := .bool true) rfl)) ?_
     refine wk 22 (by kernel_rfl) ?_
     refine wk 23 (by kernel_rfl) ?_
     refine wk 24 (by kernel_rfl) ?_
     refine wv 25 (by kernel_rfl) (fun w1 c1 => (opt (v := .bool true) rfl rfl)) ?_
     refine wv 26 (by kernel_rfl) (fun w1 c1 => (om (v := .bool true) rfl)) ?_
     refine wk 27 (by kernel_rfl) ?_
     refine wk 28 (by kernel_rfl) ?_
     refine wk 29 (by kernel_rfl) ?_
     refine wv 30 (by kernel_rfl) (fun w1 c1 => (opt (v := .bool true) rfl rfl)) ?_
     exact leaf_q (sub_out 28 _ rfl (by kernel_rfl) ⟨(congrArg Value.bool (by rw [decide_eq_false h6, decide_eq_false h7, decide_eq_true h8] <;> rfl)), trivial⟩)
    ·skip
     refine wv 15 (by kernel_rfl) (fun w1 c1 => (opf (v := .bool false) rfl rfl)) ?_
     refine wv 16 (by kernel_rfl) (fun w1 c1 => (om (v := .bool false) rfl)) ?_
     refine wv 17 (by kernel_rfl) (fun w1 c1 => (oF (m := 1) (k := 1) rfl (by kernel_rfl) rfl)) ?_
     refine wv 18 (by kernel_rfl) (fun w1 c1 => (ol rfl (by kernel_rfl) (c1.cell 0 (u := .int .i64 _) rfl rfl))) ?_
     refine wq_dec 19 (by kernel_rfl) (fun w1 c1 => (op_geq rfl rfl)) (fun h9 => ?_) (fun h9 => ?_)
     ·skip
      refine wv 20 (by kernel_rfl) (fun w1 c1 => (opf (v := .bool true) rfl rfl)) ?_
      refine wv 21 (by kernel_rfl) (fun w1 c1 => (om (v := .bool true) rfl)) ?_
      refine wk 22 (by kernel_rfl) ?_
      refine wk 23 (by kernel_rfl) ?_
      refine wk 24 (by kernel_rfl) ?_
      refine wv 25 (by kernel_rfl) (fun w1 c1 => (opt (v := .bool true) rfl rfl)) ?_
      refine wv 26 (by kernel_rfl) (fun w1 c1 => (om (v := .bool true) rfl)) ?_
      refine wk 27 (by kernel_rfl) ?_
      refine wk 28 (by kernel_rfl) ?_
      refine wk 29 (by kernel_rfl) ?_
      refine wv 30 (by kernel_rfl) (fun w1 c1 => (opt (v := .bool true) rfl rfl)) ?_
      exact leaf_q (sub_out 28 _ rfl (by kernel_rfl) ⟨(congrArg Value.bool (by rw [decide_eq_false h6, decide_eq_false h7, decide_eq_false h8, decide_eq_true h9] <;> rfl)), trivial⟩)
     ·skip
      refine wv 20 (by kernel_rfl) (fun w1 c1 => (opf (v := .bool false) rfl rfl)) ?_
      refine wv 21 (by kernel_rfl) (fun w1 c1 => (om (v := .bool false) rfl)) ?_
      refine wv 22 (by kernel_rfl) (fun w1 c1 => (oF (m := 2) (k := 2) rfl (by kernel_rfl) rfl)) ?_
      refine wv 23 (by kernel_rfl) (fun w1 c1 => (ol rfl (by kernel_rfl) (c1.cell 0 (u := .int .i64 _) rfl rfl))) ?_
      refine wq_dec 24 (by kernel_rfl) (fun w1 c1 => (op_lss rfl rfl)) (fun h10 => ?_) (fun h10 => ?_)
      ·skip
       refine wv 25 (by kernel_rfl) (fun w1 c1 => (opf (v := .bool true) rfl rfl)) ?_
       refine wv 26 (by kernel_rfl) (fun w1 c1 => (om (v := .bool true) rfl)) ?_
       refine wk 27 (by kernel_rfl) ?_
       refine wk 28 (by kernel_rfl) ?_
       refine wk 29 (by kernel_rfl) ?_
       refine wv 30 (by kernel_rfl) (fun w1 c1 => (opt (v := .bool true) rfl rfl)) ?_
       exact leaf_q (sub_out 28 _ rfl (by kernel_rfl) ⟨(congrArg Value.bool (by rw [decide_eq_false h6, decide_eq_false h7, decide_eq_false h8, decide_eq_false h9, decide_eq_true h10] <;> rfl)), trivial⟩)
      ·skip
       refine wv 25 (by kernel_rfl) (fun w1 c1 => (opf (v := .bool false) rfl rfl)) ?_
       refine wv 26 (by kernel_rfl) (fun w1 c1 => (om (v := .bool false) rfl)) ?_
       refine wv 27 (by kernel_rfl) (fun w1 c1 => (oF (m := 2) (k := 2) rfl (by kernel_rfl) rfl)) ?_
       refine wv 28 (by kernel_rfl) (fun w1 c1 => (ol rfl (by kernel_rfl) (c1.cell 0 (u := .int .i64 _) rfl rfl))) ?_
       refine wv 29 (by kernel_rfl) (fun w1 c1 => (op_gtr rfl rfl)) ?_
       refine wv 30 (by kernel_rfl) (fun w1 c1 => (opf (v := .bool _) rfl rfl)) ?_
       exact leaf_q (sub_out 28 _ rfl (by kernel_rfl) ⟨(congrArg Value.bool (by rw [decide_eq_false h6, decide_eq_false h7, decide_eq_false h8, decide_eq_false h9, decide_eq_false h10] <;> rfl)), trivial⟩)
 refine xn ?_
 refine cm_condB (by kernel_rfl) rfl (fun h11 => ?_) (fun h11 => ?_)
 ·skip
  refine cq ?_
  refine cr ?_
  refine lv 2 (by kernel_rfl) (fun w1 c1 => (oa (v := .int .i64 _) rfl)) ?_
  refine ln ?_
  refine xn ?_
  refine cm_ret ?_
  refine xm_thenR ?_
  exact xm_retT rfl (by kernel_rfl) (show _ = Value.int .i64 _ from rfl) fun w1 c1 => ⟨(), rfl, hsub [] (by kernel_rfl) rfl w1 c1⟩
 ·skip
  refine cm_skip ?_
  refine xn ?_
  refine cq ?_
  refine cq ?_
  refine cm_cutE [(38, .bool ((decide (p0.Kind < 1)) || (decide (3 < p0.Kind))))] ?_ ?_
  ·skip
   refine wv 31 (by kernel_rfl) (fun w1 c1 => (oF (m := 3) (k := 3) rfl (by kernel_rfl) rfl)) ?_
   refine wv 32 (by kernel_rfl) (fun w1 c1 => (ol rfl (by kernel_rfl) (c1.cell 0 (u := .int .i64 _) rfl rfl))) ?_
   refine wq_dec 33 (by kernel_rfl) (fun w1 c1 => (op_lss rfl rfl)) (fun h12 => ?_) (fun h12 => ?_)
   ·skip
    refine wv 34 (by kernel_rfl) (fun w1 c1 => (om (v := .bool true) rfl)) ?_
    refine wk 35 (by kernel_rfl) ?_
    refine wk 36 (by kernel_rfl) ?_
    refine wk 37 (by kernel_rfl) ?_
    refine wv 38 (by kernel_rfl) (fun w1 c1 => (opt (v := .bool true) rfl rfl)) ?_
    exact leaf_q (sub_out 8 _ rfl (by kernel_rfl) ⟨(congrArg Value.bool (by rw [decide_eq_true h12] <;> rfl)), trivial⟩)
   ·skip
    refine wv 34 (by kernel_rfl) (fun w1 c1 => (om (v := .bool false) rfl)) ?_
    refine wv 35 (by kernel_rfl) (fun w1 c1 => (oF (m := 3) (k := 3) rfl (by kernel_rfl) rfl)) ?_
    refine wv 36 (by kernel_rfl) (fun w1 c1 => (ol rfl (by kernel_rfl) (c1.cell 0 (u := .int .i64 _) rfl rfl))) ?_
    refine wv 37 (by kernel_rfl) (fun w1 c1 => (op_gtr rfl rfl)) ?_
    refine wv 38 (by kernel_rfl) (fun w1 c1 => (opf (v := .bool _) rfl rfl)) ?_
    exact leaf_q (sub_out 8 _ rfl (by kernel_rfl) ⟨(congrArg Value.bool (by rw [decide_eq_false h12] <;> rfl)), trivial⟩)
  refine xn ?_
  refine cm_condB (by kernel_rfl) rfl (fun h13 => ?_) (fun h13 => ?_)
  ·skip
   refine cq ?_
   refine cr ?_
   refine lv 2 (by kernel_rfl) (fun w1 c1 => (oa (v := .int .i64 _) rfl)) ?_
   refine ln ?_
   refine xn ?_
   refine cm_ret ?_
   refine xm_thenR ?_
   exact xm_retT rfl (by kernel_rfl) (show _ = Value.int .i64 _ from rfl) fun w1 c1 => ⟨(), rfl, hsub [] (by kernel_rfl) rfl w1 c1⟩
  ·skip
   refine cm_skip ?_
   refine xn ?_
   refine cq ?_
   refine cr ?_
   refine lv 2 (by kernel_rfl) (fun w1 c1 => (oa (v := .int .i64 _) rfl)) ?_
   refine ln ?_
   refine xn ?_
   refine cm_ret ?_
   exact xm_retT rfl (by kernel_rfl) (show _ = Value.int .i64 _ from rfl) fun w1 c1 => ⟨(), rfl, hsub [] (by kernel_rfl) rfl w1 c1⟩
/-- complaint.readable -/
def m_complaint_readable (N : Nat) (p0 : ApiBill) : Option (Int) :=
 (if 512 < (List.length p0.Items : Int) then
  some ((8 : Int))
 else
  (andThen
   (loopM (fun (s49 : Int) =>
    (if s49 < (List.length p0.Items : Int) then
     ck ((0 : Int) ≤ s49 ∧ s49 < (List.length p0.Items : Int)) (
      (if ((decide ((ix p0.Items s49).Amount < -1000000000000)) || (decide (1000000000000 < (ix p0.Items s49).Amount))) = true then
       some (.done (.done ((1 : Int))))
      else
       ck (I64 (s49 + (1 : Int))) (
        some (.next (s49 + (1 : Int))))))
    else
     some (.done (.next ())))) N (0 : Int))
  fun (_s31 : Unit) =>
   some ((0 : Int))))
set_option maxHeartbeats 2000000 in
set_option maxRecDepth 20000 in
theorem m_complaint_readable_ok (N : Nat) (w0 : World) (p0 : ApiBill) (A_p01 : Option Addr) (n_p01 c_p01 : Nat) (hr_p01 : RdE w0 5 encApiItem A_p01 p0.Items) (hz_p01 : SW A_p01 n_p01 c_p01 (List.length p0.Items)) (r : Int) (hr : m_complaint_readable N p0 = some r) :
  Calls Tryz.prog 13 [.agg #[.int .i64 p0.ID, .int .i64 p0.Household, .int .i64 p0.When.From, .int .i64 p0.When.To, .slice A_p01 n_p01 c_p01, .int .i64 p0.Total]].toArray w0 fun x w1 => ∃ u, x = .returned ((fun (r : Int) (_u : Unit) => .int .i64 r) r u) ∧ Hs w0 ((fun (_r : Int) (_u : Unit) => []) r u) w1 := by
 refine calls_cm (n := 25) (R := fun r x w1 => ∃ u, x = .returned ((fun (r : Int) (_u : Unit) => .int .i64 r) r u) ∧ Hs w0 ((fun (_r : Int) (_u : Unit) => []) r u) w1) Tryz.func13 rfl rfl (Nat.le_of_ble_eq_true rfl) ?_ r hr
 unfold m_complaint_readable
 refine cq ?_
 refine cr ?_
 refine lm_box 1 [.int .i64 _, .int .i64 _, .int .i64 _, .int .i64 _, .slice _ _ _, .int .i64 _] (by kernel_rfl) rfl ?_
 intro b5
 refine lv 2 (by kernel_rfl) (fun w1 c1 => (oa (v := .int .i64 _) rfl)) ?_
 refine ln ?_
 refine xn ?_
 refine cq ?_
 refine cq ?_
 refine cr ?_
 refine lv 5 (by kernel_rfl) (fun w1 c1 => (oF (m := 4) (k := 4) rfl (by kernel_rfl) rfl)) ?_
 refine lv 6 (by kernel_rfl) (fun w1 c1 => (ol rfl (by kernel_rfl) (c1.cell 0 (u := .slice _ _ _) rfl rfl))) ?_
 refine lv 7 (by kernel_rfl) (fun w1 c1 => (op_lenN rfl (by kernel_rfl) hz_p01.2.2)) ?_
 refine lv 8 (by kernel_rfl) (fun w1 c1 => (op_gtr rfl rfl)) ?_
 refine ln ?_
 refine xn ?_
 refine cm_cond (by kernel_rfl) rfl (fun h6 => ?_) (fun h6 => ?_)
 ·skip
  refine cq ?_
  refine cr ?_
  refine lv 2 (by kernel_rfl) (fun w1 c1 => (oa (v := .int .i64 _) rfl)) ?_
  refine ln ?_
  refine xn ?_
  refine cm_ret ?_
  refine xm_thenR ?_
  exact xm_retT rfl (by kernel_rfl) (show _ = Value.int .i64 _ from rfl) fun w1 c1 => ⟨(), rfl, hsub [] (by kernel_rfl) rfl w1 c1⟩
 ·skip
  refine cm_skip ?_
  refine xn ?_
  refine cm_join (σ := Unit) (ξ := Unit) (fun s31 u32 => []) (fun s31 u32 => []) ?_ ?_
  ·skip
   refine cq ?_
   refine cr ?_
   refine lv 9 (by kernel_rfl) (fun w1 c1 => (oF (m := 4) (k := 4) rfl (by kernel_rfl) rfl)) ?_
   refine lv 10 (by kernel_rfl) (fun w1 c1 => (ol rfl (by kernel_rfl) (c1.cell 0 (u := .slice _ _ _) rfl rfl))) ?_
   refine lv 11 (by kernel_rfl) (fun w1 c1 => (op_lenN rfl (by kernel_rfl) hz_p01.2.2)) ?_
   refine lv 12 (by kernel_rfl) (fun w1 c1 => (om (v := .int .i64 _) rfl)) ?_
   refine ln ?_
   refine xn ?_
   refine cm_block ?_
   refine cm_loop (σ := Int) (ξ := Unit) (fun s49 u50 => [(10, .slice A_p01 n_p01 c_p01), (11, .int .i64 (List.length p0.Items : Int)), (12, .int .i64 s49)]) (fun s49 u50 => []) () ?_ ?_ ?_
   ·exact (sc (by kernel_rfl) rfl (sc (by kernel_rfl) rfl (sc (by kernel_rfl) rfl sub_nil)))
   ·exact hsub [] (by kernel_rfl) rfl
   intro s49 u50
   refine cq ?_
   refine cr ?_
   refine lv 13 (by kernel_rfl) (fun w1 c1 => (op_lss rfl rfl)) ?_
   refine ln ?_
   refine xn ?_
   refine cq ?_
   refine cm_cond (by kernel_rfl) rfl (fun h51 => ?_) (fun h51 => ?_)
   ·skip
    refine cm_skip ?_
    refine xn ?_
    refine cq ?_
    refine cm_block ?_
    refine cq ?_
    refine cr ?_
    refine lm_ck (fun h52 => ?_)
    refine lv 14 (by kernel_rfl) (fun w1 c1 => (op_indexA 5 rfl rfl (by kernel_rfl) ((hr_p01.old c1).addr h52.1 h52.2) hz_p01.2.2 h52.1 h52.2)) ?_
    refine lv 15 (by kernel_rfl) (fun w1 c1 => (op_loadR [.int .i64 ((ix p0.Items s49).Kind), .int .i64 ((ix p0.Items s49).Ref), .int .i64 ((ix p0.Items s49).Count), .int .i64 ((ix p0.Items s49).Price), .int .i64 ((ix p0.Items s49).Amount)] rfl (by kernel_rfl) ((hr_p01.old c1).row h52.1 h52.2))) ?_
    refine lm_alloc 4 [.int .i64 0, .int .i64 0, .int .i64 0, .int .i64 0, .int .i64 0] (v := .agg #[.int .i64 0, .int .i64 0, .int .i64 0, .int .i64 0, .int .i64 0]) (by kernel_rfl) (by kernel_rfl) rfl ?_
    intro b53
    refine lm_storeA 0 [.int .i64 _, .int .i64 _, .int .i64 _, .int .i64 _, .int .i64 _] [_, _, _, _, _] (H' := [blkE _ _ [_, _, _, _, _]]) (by kernel_rfl) rfl rfl (by kernel_rfl) rfl rfl (by kernel_rfl) rfl rfl ?_
    refine ln ?_
    refine xn ?_
    refine cq ?_
    refine cm_cutE [(23, .bool ((decide ((ix p0.Items s49).Amount < -1000000000000)) || (decide (1000000000000 < (ix p0.Items s49).Amount))))] ?_ ?_
    ·skip
     refine wv 16 (by kernel_rfl) (fun w1 c1 => (oF (m := 4) (k := 4) rfl (by kernel_rfl) rfl)) ?_
     refine wv 17 (by kernel_rfl) (fun w1 c1 => (ol rfl (by kernel_rfl) (c1.cell 0 (u := .int .i64 _) rfl rfl))) ?_
     refine wq_dec 18 (by kernel_rfl) (fun w1 c1 => (op_lss rfl rfl)) (fun h54 => ?_) (fun h54 => ?_)
     ·skip
      refine wv 19 (by kernel_rfl) (fun w1 c1 => (om (v := .bool true) rfl)) ?_
      refine wk 20 (by kernel_rfl) ?_
      refine wk 21 (by kernel_rfl) ?_
      refine wk 22 (by kernel_rfl) ?_
      refine wv 23 (by kernel_rfl) (fun w1 c1 => (opt (v := .bool true) rfl rfl)) ?_
      exact leaf_q (sub_out 8 _ rfl (by kernel_rfl) ⟨(congrArg Value.bool (by rw [decide_eq_true h54] <;> rfl)), trivial⟩)
     ·skip
      refine wv 19 (by kernel_rfl) (fun w1 c1 => (om (v := .bool false) rfl)) ?_
      refine wv 20 (by kernel_rfl) (fun w1 c1 => (oF (m := 4) (k := 4) rfl (by kernel_rfl) rfl)) ?_
      refine wv 21 (by kernel_rfl) (fun w1 c1 => (ol rfl (by kernel_rfl) (c1.cell 0 (u := .int .i64 _) rfl rfl))) ?_
      refine wv 22 (by kernel_rfl) (fun w1 c1 => (op_gtr rfl rfl)) ?_
      refine wv 23 (by kernel_rfl) (fun w1 c1 => (opf (v := .bool _) rfl rfl)) ?_
      exact leaf_q (sub_out 8 _ rfl (by kernel_rfl) ⟨(congrArg Value.bool (by rw [decide_eq_false h54] <;> rfl)), trivial⟩)
    refine xn ?_
    refine cm_condB (by kernel_rfl) rfl (fun h55 => ?_) (fun h55 => ?_)
    ·skip
     refine cq ?_
     refine cr ?_
     refine lv 2 (by kernel_rfl) (fun w1 c1 => (oa (v := .int .i64 _) rfl)) ?_
     refine ln ?_
     refine xn ?_
     refine cm_ret ?_
     refine xm_inR ?_
     refine xm_thenR ?_
     refine xm_lret ?_
     refine xm_inR ?_
     refine xm_lret ?_
     exact xm_retT rfl (by kernel_rfl) (show _ = Value.int .i64 _ from rfl) fun w1 c1 => ⟨(), rfl, hsub [] (by kernel_rfl) rfl w1 c1⟩
    ·skip
     refine cm_skip ?_
     refine xm_inN ?_
     refine xn ?_
     refine cr ?_
     refine lm_ck (fun h56 => ?_)
     refine lv 24 (by kernel_rfl) (fun w1 c1 => (op_add rfl rfl h56)) ?_
     refine lv 12 (by kernel_rfl) (fun w1 c1 => (om (v := .int .i64 _) rfl)) ?_
     refine ln ?_
     exact xm_lnext () (sc (by kernel_rfl) rfl (sc (by kernel_rfl) rfl (sc (by kernel_rfl) rfl sub_nil))) (hsub [] (by kernel_rfl) rfl)
   ·skip
    refine cm_exit ?_
    refine xm_thenE ?_
    refine xm_lexit ?_
    refine xm_here ?_
    exact xm_lnext () sub_nil (hsub [] (by kernel_rfl) rfl)
  intro s31 u32
  refine cq ?_
  refine cr ?_
  refine lv 2 (by kernel_rfl) (fun w1 c1 => (oa (v := .int .i64 _) rfl)) ?_
  refine ln ?_
  refine xn ?_
  refine cm_ret ?_
  exact xm_retT rfl (by kernel_rfl) (show _ = Value.int .i64 _ from rfl) fun w1 c1 => ⟨(), rfl, hsub [] (by kernel_rfl) rfl w1 c1⟩
/-- complaint.emptied$1 -/
def m_complaint_emptied_1 (_N : Nat) (p0 : ApiItem) (q0 : Int) : Option (Bool) :=
 some (((decide (p0.Kind = 2)) && (decide (p0.Ref = q0))))
set_option maxRecDepth 20000 in
theorem m_complaint_emptied_1_ok (N : Nat) (w0 : World) (p0 : ApiItem) (q0 : Int) (b_q0 : Nat) (hb_q0 : Blk w0 b_q0 3 [.int .i64 q0]) (r : Bool) (hr : m_complaint_emptied_1 N p0 q0 = some r) :
  Calls Tryz.prog 44 [.agg #[.int .i64 p0.Kind, .int .i64 p0.Ref, .int .i64 p0.Count, .int .i64 p0.Price, .int .i64 p0.Amount], .pointer (some ⟨b_q0, 0, none⟩)].toArray w0 fun x w1 => ∃ u, x = .returned ((fun (r : Bool) (_u : Unit) => .bool r) r u) ∧ Hs w0 ((fun (_r : Bool) (_u : Unit) => []) r u) w1 := by
 refine calls_cm (n := 13) (R := fun r x w1 => ∃ u, x = .returned ((fun (r : Bool) (_u : Unit) => .bool r) r u) ∧ Hs w0 ((fun (_r : Bool) (_u : Unit) => []) r u) w1) Tryz.func44 rfl rfl (Nat.le_of_ble_eq_true rfl) ?_ r hr
 unfold m_complaint_emptied_1
 refine cq ?_
 refine cr ?_
 refine lm_box 2 [.int .i64 _, .int .i64 _, .int .i64 _, .int .i64 _, .int .i64 _] (by kernel_rfl) rfl ?_
 intro b5
 refine lv 3 (by kernel_rfl) (fun w1 c1 => (oa (v := .bool false) rfl)) ?_
 refine ln ?_
 refine xn ?_
 refine cq ?_
 refine cm_cutE [(3, .bool ((decide (p0.Kind = 2)) && (decide (p0.Ref = q0))))] ?_ ?_
 ·skip
  refine wv 4 (by kernel_rfl) (fun w1 c1 => (oF (m := 0) (k := 0) rfl (by kernel_rfl) rfl)) ?_
  refine wv 5 (by kernel_rfl) (fun w1 c1 => (ol rfl (by kernel_rfl) (c1.cell 0 (u := .int .i64 _) rfl rfl))) ?_
  refine wq_dec 6 (by kernel_rfl) (fun w1 c1 => (op_eql rfl rfl)) (fun h6 => ?_) (fun h6 => ?_)
  ·skip
   refine wv 7 (by kernel_rfl) (fun w1 c1 => (om (v := .bool true) rfl)) ?_
   refine wv 8 (by kernel_rfl) (fun w1 c1 => (oF (m := 1) (k := 1) rfl (by kernel_rfl) rfl)) ?_
   refine wv 9 (by kernel_rfl) (fun w1 c1 => (ol rfl (by kernel_rfl) (c1.cell 0 (u := .int .i64 _) rfl rfl))) ?_
   refine wv 10 (by kernel_rfl) (fun w1 c1 => (ol rfl (by kernel_rfl) (c1.ocell (hb_q0.at_ 0 (u := .int .i64 _) rfl)))) ?_
   refine wv 11 (by kernel_rfl) (fun w1 c1 => (op_eql rfl rfl)) ?_
   refine wv 12 (by kernel_rfl) (fun w1 c1 => (opt (v := .bool _) rfl rfl)) ?_
   refine wv 3 (by kernel_rfl) (fun w1 c1 => (oa (v := .bool _) rfl)) ?_
   exact leaf_q (sub_out 10 _ rfl (by kernel_rfl) ⟨(congrArg Value.bool (by rw [decide_eq_true h6] <;> rfl)), trivial⟩)
  ·skip
   refine wv 7 (by kernel_rfl) (fun w1 c1 => (om (v := .bool false) rfl)) ?_
   refine wk 8 (by kernel_rfl) ?_
   refine wk 9 (by kernel_rfl) ?_
   refine wk 10 (by kernel_rfl) ?_
   refine wk 11 (by kernel_rfl) ?_
   refine wv 12 (by kernel_rfl) (fun w1 c1 => (opf (v := .bool false) rfl rfl)) ?_
   refine wv 3 (by kernel_rfl) (fun w1 c1 => (oa (v := .bool false) rfl)) ?_
   exact leaf_q (sub_out 10 _ rfl (by kernel_rfl) ⟨(congrArg Value.bool (by rw [decide_eq_false h6] <;> rfl)), trivial⟩)
 refine xn ?_
 refine cm_ret ?_
 exact xm_retT rfl (by kernel_rfl) (show _ = Value.bool _ from rfl) fun w1 c1 => ⟨(), rfl, hsub [] (by kernel_rfl) rfl w1 c1⟩
/-- slices.IndexFunc -/
def m_slices_IndexFunc_complaint_emptied_1 (N : Nat) (p0 : (List ApiItem)) (p1c0 : Int) : Option (Int) :=
 (andThen
  (loopM (fun (s47 : Int) =>
   (if s47 < (List.length p0 : Int) then
    ck ((0 : Int) ≤ s47 ∧ s47 < (List.length p0 : Int)) (
     Option.bind (m_complaint_emptied_1 N (ix p0 s47) p1c0) fun r51 => (if r51 = true then
      some (.done (.done (s47)))
     else
      ck (I64 (s47 + (1 : Int))) (
       some (.next (s47 + (1 : Int))))))
   else
    some (.done (.next ())))) N (0 : Int))
 fun (_s29 : Unit) =>
  some ((-1 : Int)))
set_option maxRecDepth 20000 in
theorem m_slices_IndexFunc_complaint_emptied_1_ok (N : Nat) (w0 : World) (p0 : (List ApiItem)) (p1c0 : Int) (A_p0 : Option Addr) (n_p0 c_p0 : Nat) (b_p1c0 : Nat) (hr_p0 : RdE w0 5 encApiItem A_p0 p0) (hz_p0 : SW A_p0 n_p0 c_p0 (List.length p0)) (hb_p1c0 : Blk w0 b_p1c0 3 [.int .i64 p1c0]) (r : Int) (hr : m_slices_IndexFunc_complaint_emptied_1 N p0 p1c0 = some r) :
  Calls Tryz.prog 62 [.slice A_p0 n_p0 c_p0, .func (.func 44) #[] #[.pointer (some ⟨b_p1c0, 0, none⟩)]].toArray w0 fun x w1 => ∃ u, x = .returned ((fun (r : Int) (_u : Unit) => .int .i64 r) r u) ∧ Hs w0 ((fun (_r : Int) (_u : Unit) => []) r u) w1 := by
 refine calls_cm (n := 19) (R := fun r x w1 => ∃ u, x = .returned ((fun (r : Int) (_u : Unit) => .int .i64 r) r u) ∧ Hs w0 ((fun (_r : Int) (_u : Unit) => []) r u) w1) Tryz.func62 rfl rfl (Nat.le_of_ble_eq_true rfl) ?_ r hr
 unfold m_slices_IndexFunc_complaint_emptied_1
 refine cq ?_
 refine cr ?_
 refine lv 4 (by kernel_rfl) (fun w1 c1 => (oa (v := .int .i64 _) rfl)) ?_
 refine ln ?_
 refine xn ?_
 refine cm_join (σ := Unit) (ξ := Unit) (fun s29 u30 => []) (fun s29 u30 => []) ?_ ?_
 ·skip
  refine cq ?_
  refine cr ?_
  refine lv 6 (by kernel_rfl) (fun w1 c1 => (om (v := .slice _ _ _) rfl)) ?_
  refine lv 7 (by kernel_rfl) (fun w1 c1 => (op_lenN rfl (by kernel_rfl) hz_p0.2.2)) ?_
  refine lv 8 (by kernel_rfl) (fun w1 c1 => (om (v := .int .i64 _) rfl)) ?_
  refine ln ?_
  refine xn ?_
  refine cm_block ?_
  refine cm_loop (σ := Int) (ξ := Unit) (fun s47 u48 => [(0, .slice A_p0 n_p0 c_p0), (1, .func (.func 44) #[] #[.pointer (some ⟨b_p1c0, 0, none⟩)]), (7, .int .i64 (List.length p0 : Int)), (8, .int .i64 s47)]) (fun s47 u48 => []) () ?_ ?_ ?_
  ·exact (sc (by kernel_rfl) rfl (sc (by kernel_rfl) rfl (sc (by kernel_rfl) rfl (sc (by kernel_rfl) rfl sub_nil))))
  ·exact hsub [] (by kernel_rfl) rfl
  intro s47 u48
  refine cq ?_
  refine cr ?_
  refine lv 9 (by kernel_rfl) (fun w1 c1 => (op_lss rfl rfl)) ?_
  refine ln ?_
  refine xn ?_
  refine cq ?_
  refine cm_cond (by kernel_rfl) rfl (fun h49 => ?_) (fun h49 => ?_)
  ·skip
   refine cm_skip ?_
   refine xn ?_
   refine cq ?_
   refine cm_block ?_
   refine cq ?_
   refine cr ?_
   refine lv 10 (by kernel_rfl) (fun w1 c1 => (om (v := .int .i64 _) rfl)) ?_
   refine lv 5 (by kernel_rfl) (fun w1 c1 => (oa (v := .int .i64 _) rfl)) ?_
   refine ln ?_
   refine xn ?_
   refine cq ?_
   refine cr ?_
   refine lv 11 (by kernel_rfl) (fun w1 c1 => (om (v := .func _ _ _) rfl)) ?_
   refine lv 12 (by kernel_rfl) (fun w1 c1 => (om (v := .slice _ _ _) rfl)) ?_
   refine lv 13 (by kernel_rfl) (fun w1 c1 => (om (v := .int .i64 _) rfl)) ?_
   refine lm_ck (fun h50 => ?_)
   refine lv 14 (by kernel_rfl) (fun w1 c1 => (op_indexA 5 rfl rfl (by kernel_rfl) ((hr_p0.old c1).addr h50.1 h50.2) hz_p0.2.2 h50.1 h50.2)) ?_
   refine lv 15 (by kernel_rfl) (fun w1 c1 => (op_loadR [.int .i64 ((ix p0 s47).Kind), .int .i64 ((ix p0 s47).Ref), .int .i64 ((ix p0 s47).Count), .int .i64 ((ix p0 s47).Price), .int .i64 ((ix p0 s47).Amount)] rfl (by kernel_rfl) ((hr_p0.old c1).row h50.1 h50.2))) ?_
   refine lm_call 16 (V := (fun (r : Bool) (_u : Unit) => .bool r)) (HR := (fun (_r : Bool) (_u : Unit) => [])) (by kernel_rfl) (fun w1 => op_callv rfl (by kernel_rfl)) (fun r1 hr1 w1 c1 => m_complaint_emptied_1_ok N w1 (ix p0 s47) p1c0 b_p1c0 (c1.oblk hb_p1c0) r1 hr1) ?_
   intro r51 u52
   refine ln ?_
   refine xn ?_
   refine cm_condB (by kernel_rfl) rfl (fun h53 => ?_) (fun h53 => ?_)
   ·skip
    refine cq ?_
    refine cr ?_
    refine lv 17 (by kernel_rfl) (fun w1 c1 => (om (v := .int .i64 _) rfl)) ?_
    refine lv 4 (by kernel_rfl) (fun w1 c1 => (oa (v := .int .i64 _) rfl)) ?_
    refine ln ?_
    refine xn ?_
    refine cm_ret ?_
    refine xm_inR ?_
    refine xm_thenR ?_
    refine xm_lret ?_
    refine xm_inR ?_
    refine xm_lret ?_
    exact xm_retT rfl (by kernel_rfl) (show _ = Value.int .i64 _ from rfl) fun w1 c1 => ⟨(), rfl, hsub [] (by kernel_rfl) rfl w1 c1⟩
   ·skip
    refine cm_skip ?_
    refine xm_inN ?_
    refine xn ?_
    refine cr ?_
    refine lm_ck (fun h54 => ?_)
    refine lv 18 (by kernel_rfl) (fun w1 c1 => (op_add rfl rfl h54)) ?_
    refine lv 8 (by kernel_rfl) (fun w1 c1 => (om (v := .int .i64 _) rfl)) ?_
    refine ln ?_
    exact xm_lnext () (sc (by kernel_rfl) rfl (sc (by kernel_rfl) rfl (sc (by kernel_rfl) rfl (sc (by kernel_rfl) rfl sub_nil)))) (hsub [] (by kernel_rfl) rfl)
  ·skip
   refine cm_exit ?_
   refine xm_thenE ?_
   refine xm_lexit ?_
   refine xm_here ?_
   exact xm_lnext () sub_nil (hsub [] (by kernel_rfl) rfl)
 intro s29 u30
 refine cq ?_
 refine cr ?_
 refine lv 4 (by kernel_rfl) (fun w1 c1 => (oa (v := .int .i64 _) rfl)) ?_
 refine ln ?_
 refine xn ?_
 refine cm_ret ?_
 exact xm_retT rfl (by kernel_rfl) (show _ = Value.int .i64 _ from rfl) fun w1 c1 => ⟨(), rfl, hsub [] (by kernel_rfl) rfl w1 c1⟩
/-- slices.ContainsFunc -/
def m_slices_ContainsFunc_complaint_emptied_1 (N : Nat) (p0 : (List ApiItem)) (p1c0 : Int) : Option (Bool) :=
 Option.bind (m_slices_IndexFunc_complaint_emptied_1 N p0 p1c0) fun r5 => some ((decide (0 ≤ r5)))
set_option maxRecDepth 20000 in
theorem m_slices_ContainsFunc_complaint_emptied_1_ok (N : Nat) (w0 : World) (p0 : (List ApiItem)) (p1c0 : Int) (A_p0 : Option Addr) (n_p0 c_p0 : Nat) (b_p1c0 : Nat) (hr_p0 : RdE w0 5 encApiItem A_p0 p0) (hz_p0 : SW A_p0 n_p0 c_p0 (List.length p0)) (hb_p1c0 : Blk w0 b_p1c0 3 [.int .i64 p1c0]) (r : Bool) (hr : m_slices_ContainsFunc_complaint_emptied_1 N p0 p1c0 = some r) :
  Calls Tryz.prog 41 [.slice A_p0 n_p0 c_p0, .func (.func 44) #[] #[.pointer (some ⟨b_p1c0, 0, none⟩)]].toArray w0 fun x w1 => ∃ u, x = .returned ((fun (r : Bool) (_u : Unit) => .bool r) r u) ∧ Hs w0 ((fun (_r : Bool) (_u : Unit) => []) r u) w1 := by
 refine calls_cm (n := 9) (R := fun r x w1 => ∃ u, x = .returned ((fun (r : Bool) (_u : Unit) => .bool r) r u) ∧ Hs w0 ((fun (_r : Bool) (_u : Unit) => []) r u) w1) Tryz.func41 rfl rfl (Nat.le_of_ble_eq_true rfl) ?_ r hr
 unfold m_slices_ContainsFunc_complaint_emptied_1
 refine cq ?_
 refine cr ?_
 refine lv 4 (by kernel_rfl) (fun w1 c1 => (oa (v := .bool false) rfl)) ?_
 refine ln ?_
 refine xn ?_
 refine cq ?_
 refine cr ?_
 refine lv 5 (by kernel_rfl) (fun w1 c1 => (om (v := .slice _ _ _) rfl)) ?_
 refine lv 6 (by kernel_rfl) (fun w1 c1 => (om (v := .func _ _ _) rfl)) ?_
 refine lm_call 7 (V := (fun (r : Int) (_u : Unit) => .int .i64 r)) (HR := (fun (_r : Int) (_u : Unit) => [])) (by kernel_rfl) (fun w1 => op_call (by kernel_rfl)) (fun r1 hr1 w1 c1 => m_slices_IndexFunc_complaint_emptied_1_ok N w1 p0 p1c0 A_p0 n_p0 c_p0 b_p1c0 (hr_p0.old c1) hz_p0 (c1.oblk hb_p1c0) r1 hr1) ?_
 intro r5 u6
 refine lv 8 (by kernel_rfl) (fun w1 c1 => (op_geq rfl rfl)) ?_
 refine lv 4 (by kernel_rfl) (fun w1 c1 => (oa (v := .bool _) rfl)) ?_
 refine ln ?_
 refine xn ?_
 refine cm_ret ?_
 exact xm_retT rfl (by kernel_rfl) (show _ = Value.bool _ from rfl) fun w1 c1 => ⟨(), rfl, hsub [] (by kernel_rfl) rfl w1 c1⟩
/-- complaint.emptied -/
def m_complaint_emptied (N : Nat) (p0 : ApiBill) (p1 : Int) : Option (Bool) :=
 Option.bind (m_slices_ContainsFunc_complaint_emptied_1 N p0.Items p1) fun r7 => some (r7)
set_option maxRecDepth 20000 in
theorem m_complaint_emptied_ok (N : Nat) (w0 : World) (p0 : ApiBill) (p1 : Int) (A_p01 : Option Addr) (n_p01 c_p01 : Nat) (hr_p01 : RdE w0 5 encApiItem A_p01 p0.Items) (hz_p01 : SW A_p01 n_p01 c_p01 (List.length p0.Items)) (r : Bool) (hr : m_complaint_emptied N p0 p1 = some r) :
  Calls Tryz.prog 26 [.agg #[.int .i64 p0.ID, .int .i64 p0.Household, .int .i64 p0.When.From, .int .i64 p0.When.To, .slice A_p01 n_p01 c_p01, .int .i64 p0.Total], .int .i64 p1].toArray w0 fun x w1 => ∃ u, x = .returned ((fun (r : Bool) (_u : Unit) => .bool r) r u) ∧ Hs w0 ((fun (_r : Bool) (_u : Unit) => []) r u) w1 := by
 refine calls_cm (n := 9) (R := fun r x w1 => ∃ u, x = .returned ((fun (r : Bool) (_u : Unit) => .bool r) r u) ∧ Hs w0 ((fun (_r : Bool) (_u : Unit) => []) r u) w1) Tryz.func26 rfl rfl (Nat.le_of_ble_eq_true rfl) ?_ r hr
 unfold m_complaint_emptied
 refine cq ?_
 refine cr ?_
 refine lm_box 2 [.int .i64 _, .int .i64 _, .int .i64 _, .int .i64 _, .slice _ _ _, .int .i64 _] (by kernel_rfl) rfl ?_
 intro b5
 refine lm_box 3 [.int .i64 _] (by kernel_rfl) rfl ?_
 intro b6
 refine lv 4 (by kernel_rfl) (fun w1 c1 => (oa (v := .bool false) rfl)) ?_
 refine ln ?_
 refine xn ?_
 refine cq ?_
 refine cr ?_
 refine lv 5 (by kernel_rfl) (fun w1 c1 => (oF (m := 4) (k := 4) rfl (by kernel_rfl) rfl)) ?_
 refine lv 6 (by kernel_rfl) (fun w1 c1 => (ol rfl (by kernel_rfl) (c1.cell 1 (u := .slice _ _ _) rfl rfl))) ?_
 refine lv 7 (by kernel_rfl) (fun w1 c1 => (op_makeFuncC [.pointer (some ⟨_, _, _⟩)] rfl)) ?_
 refine lm_call 8 (V := (fun (r : Bool) (_u : Unit) => .bool r)) (HR := (fun (_r : Bool) (_u : Unit) => [])) (by kernel_rfl) (fun w1 => op_call (by kernel_rfl)) (fun r1 hr1 w1 c1 => m_slices_ContainsFunc_complaint_emptied_1_ok N w1 p0.Items p1 A_p01 n_p01 c_p01 b6 (hr_p01.old c1) hz_p01 (c1.blk 0 rfl) r1 hr1) ?_
 intro r7 u8
 refine lv 4 (by kernel_rfl) (fun w1 c1 => (oa (v := .bool _) rfl)) ?_
 refine ln ?_
 refine xn ?_
 refine cm_ret ?_
 exact xm_retT rfl (by kernel_rfl) (show _ = Value.bool _ from rfl) fun w1 c1 => ⟨(), rfl, hsub [] (by kernel_rfl) rfl w1 c1⟩
/-- complaint.Rest -/
def m_complaint_Rest (N : Nat) (p0 : ApiBill) (p1 : Int) : Option (Int × Int) :=
 Option.bind (m_complaint_readable N p0) fun r6 => (if r6 ≠ 0 then
  some (((0 : Int), r6))
 else
  Option.bind (m_complaint_emptied N p0 p1) fun r9 => (if (!r9) = true then
   some (((0 : Int), (7 : Int)))
  else
   (andThen
    (loopM (fun (s104 : Int × Int) =>
     (if s104.2 < (List.length p0.Items : Int) then
      (andThen
       (ck ((0 : Int) ≤ s104.2 ∧ s104.2 < (List.length p0.Items : Int)) (
        (if (((decide ((ix p0.Items s104.2).Ref = p1)) && (decide (2 ≤ (ix p0.Items s104.2).Kind))) && (decide ((ix p0.Items s104.2).Kind ≤ 4))) = true then
         ck (I64 (s104.1 + ((ix p0.Items s104.2).Amount))) (
          some (.next (s104.1 + ((ix p0.Items s104.2).Amount))))
        else
         some (.next s104.1))))
      fun (s113 : Int) =>
       ck (I64 (s104.2 + (1 : Int))) (
        some (.next (s113, (s104.2 + (1 : Int))))))
     else
      some (.done (.next s104.1)))) N ((0 : Int), (0 : Int)))
   fun (s66 : Int) =>
    some ((s66, (0 : Int))))))
set_option maxHeartbeats 2000000 in
set_option maxRecDepth 20000 in
theorem m_complaint_Rest_ok (N : Nat) (w0 : World) (p0 : ApiBill) (p1 : Int) (A_p01 : Option Addr) (n_p01 c_p01 : Nat) (hr_p01 : RdE w0 5 encApiItem A_p01 p0.Items) (hz_p01 : SW A_p01 n_p01 c_p01 (List.length p0.Items)) (r : Int × Int) (hr : m_complaint_Rest N p0 p1 = some r) :
  Calls Tryz.prog 10 [.agg #[.int .i64 p0.ID, .int .i64 p0.Household, .int .i64 p0.When.From, .int .i64 p0.When.To, .slice A_p01 n_p01 c_p01, .int .i64 p0.Total], .int .i64 p1].toArray w0 fun x w1 => ∃ u, x = .returned ((fun (r : Int × Int) (_u : Unit) => .tuple #[.int .i64 r.1, .int .i64 r.2]) r u) ∧ Hs w0 ((fun (_r : Int × Int) (_u : Unit) => []) r u) w1 := by
 refine calls_cm (n := 46) (R := fun r x w1 => ∃ u, x = .returned ((fun (r : Int × Int) (_u : Unit) => .tuple #[.int .i64 r.1, .int .i64 r.2]) r u) ∧ Hs w0 ((fun (_r : Int × Int) (_u : Unit) => []) r u) w1) Tryz.func10 rfl rfl (Nat.le_of_ble_eq_true rfl) ?_ r hr
 unfold m_complaint_Rest
 refine cq ?_
 refine cr ?_
 refine lm_box 2 [.int .i64 _, .int .i64 _, .int .i64 _, .int .i64 _, .slice _ _ _, .int .i64 _] (by kernel_rfl) rfl ?_
 intro b5
 refine lv 4 (by kernel_rfl) (fun w1 c1 => (oa (v := .int .i64 _) rfl)) ?_
 refine lv 5 (by kernel_rfl) (fun w1 c1 => (oa (v := .int .i64 _) rfl)) ?_
 refine ln ?_
 refine xn ?_
 refine cq ?_
 refine cq ?_
 refine cr ?_
 refine lv 10 (by kernel_rfl) (fun w1 c1 => (op_loadR [.int .i64 _, .int .i64 _, .int .i64 _, .int .i64 _, .slice _ _ _, .int .i64 _] rfl (by kernel_rfl) (c1.cells 0 rfl rfl))) ?_
 refine lm_call 11 (V := (fun (r : Int) (_u : Unit) => .int .i64 r)) (HR := (fun (_r : Int) (_u : Unit) => [])) (by kernel_rfl) (fun w1 => op_call (by kernel_rfl)) (fun r1 hr1 w1 c1 => m_complaint_readable_ok N w1 p0 A_p01 n_p01 c_p01 (hr_p01.old c1) hz_p01 r1 hr1) ?_
 intro r6 u7
 refine lv 6 (by kernel_rfl) (fun w1 c1 => (oa (v := .int .i64 _) rfl)) ?_
 refine ln ?_
 refine xn ?_
 refine cq ?_
 refine cr ?_
 refine lv 12 (by kernel_rfl) (fun w1 c1 => (om (v := .int .i64 _) rfl)) ?_
 refine lv 13 (by kernel_rfl) (fun w1 c1 => (op_neq rfl rfl)) ?_
 refine ln ?_
 refine xn ?_
 refine cm_cond (by kernel_rfl) rfl (fun h8 => ?_) (fun h8 => ?_)
 ·skip
  refine cq ?_
  refine cr ?_
  refine lv 14 (by kernel_rfl) (fun w1 c1 => (om (v := .int .i64 _) rfl)) ?_
  refine lv 4 (by kernel_rfl) (fun w1 c1 => (oa (v := .int .i64 _) rfl)) ?_
  refine lv 5 (by kernel_rfl) (fun w1 c1 => (oa (v := .int .i64 _) rfl)) ?_
  refine ln ?_
  refine xn ?_
  refine cm_ret ?_
  refine xm_thenR ?_
  exact xm_retTT rfl (by kernel_rfl) (show _ = Value.int .i64 _ from rfl) (by kernel_rfl) (show _ = Value.int .i64 _ from rfl) fun w1 c1 => ⟨(), rfl, hsub [] (by kernel_rfl) rfl w1 c1⟩
 ·skip
  refine cm_skip ?_
  refine xn ?_
  refine cq ?_
  refine cq ?_
  refine cr ?_
  refine lv 15 (by kernel_rfl) (fun w1 c1 => (op_loadR [.int .i64 _, .int .i64 _, .int .i64 _, .int .i64 _, .slice _ _ _, .int .i64 _] rfl (by kernel_rfl) (c1.cells 0 rfl rfl))) ?_
  refine lv 16 (by kernel_rfl) (fun w1 c1 => (om (v := .int .i64 _) rfl)) ?_
  refine lm_call 17 (V := (fun (r : Bool) (_u : Unit) => .bool r)) (HR := (fun (_r : Bool) (_u : Unit) => [])) (by kernel_rfl) (fun w1 => op_call (by kernel_rfl)) (fun r1 hr1 w1 c1 => m_complaint_emptied_ok N w1 p0 p1 A_p01 n_p01 c_p01 (hr_p01.old c1) hz_p01 r1 hr1) ?_
  intro r9 u10
  refine lv 18 (by kernel_rfl) (fun w1 c1 => (op_not rfl)) ?_
  refine ln ?_
  refine xn ?_
  refine cm_condB (by kernel_rfl) rfl (fun h11 => ?_) (fun h11 => ?_)
  ·skip
   refine cq ?_
   refine cr ?_
   refine lv 4 (by kernel_rfl) (fun w1 c1 => (oa (v := .int .i64 _) rfl)) ?_
   refine lv 5 (by kernel_rfl) (fun w1 c1 => (oa (v := .int .i64 _) rfl)) ?_
   refine ln ?_
   refine xn ?_
   refine cm_ret ?_
   refine xm_thenR ?_
   exact xm_retTT rfl (by kernel_rfl) (show _ = Value.int .i64 _ from rfl) (by kernel_rfl) (show _ = Value.int .i64 _ from rfl) fun w1 c1 => ⟨(), rfl, hsub [] (by kernel_rfl) rfl w1 c1⟩
  ·skip
   refine cm_skip ?_
   refine xn ?_
   refine cq ?_
   refine cr ?_
   refine lv 7 (by kernel_rfl) (fun w1 c1 => (oa (v := .int .i64 _) rfl)) ?_
   refine ln ?_
   refine xn ?_
   refine cm_join (σ := Int) (ξ := Unit) (fun s66 u67 => [(7, .int .i64 s66)]) (fun s66 u67 => []) ?_ ?_
   ·skip
    refine cq ?_
    refine cr ?_
    refine lv 19 (by kernel_rfl) (fun w1 c1 => (oF (m := 4) (k := 4) rfl (by kernel_rfl) rfl)) ?_
    refine lv 20 (by kernel_rfl) (fun w1 c1 => (ol rfl (by kernel_rfl) (c1.cell 0 (u := .slice _ _ _) rfl rfl))) ?_
    refine lv 21 (by kernel_rfl) (fun w1 c1 => (op_lenN rfl (by kernel_rfl) hz_p01.2.2)) ?_
    refine lv 22 (by kernel_rfl) (fun w1 c1 => (om (v := .int .i64 _) rfl)) ?_
    refine ln ?_
    refine xn ?_
    refine cm_block ?_
    refine cm_loop (σ := Int × Int) (ξ := Unit) (fun s104 u105 => [(1, .int .i64 p1), (7, .int .i64 s104.1), (20, .slice A_p01 n_p01 c_p01), (21, .int .i64 (List.length p0.Items : Int)), (22, .int .i64 s104.2)]) (fun s104 u105 => []) () ?_ ?_ ?_
    ·exact (sc (by kernel_rfl) rfl (sc (by kernel_rfl) rfl (sc (by kernel_rfl) rfl (sc (by kernel_rfl) rfl (sc (by kernel_rfl) rfl sub_nil)))))
    ·exact hsub [] (by kernel_rfl) rfl
    intro s104 u105
    refine cq ?_
    refine cr ?_
    refine lv 23 (by kernel_rfl) (fun w1 c1 => (op_lss rfl rfl)) ?_
    refine ln ?_
    refine xn ?_
    refine cq ?_
    refine cm_cond (by kernel_rfl) rfl (fun h106 => ?_) (fun h106 => ?_)
    ·skip
     refine cm_skip ?_
     refine xn ?_
     refine cm_join (σ := Int) (ξ := Unit) (fun s113 u114 => [(1, .int .i64 p1), (7, .int .i64 s113), (20, .slice A_p01 n_p01 c_p01), (21, .int .i64 (List.length p0.Items : Int)), (22, .int .i64 s104.2)]) (fun s113 u114 => []) ?_ ?_
     ·skip
      refine cm_block ?_
      refine cq ?_
      refine cr ?_
      refine lm_ck (fun h115 => ?_)
      refine lv 24 (by kernel_rfl) (fun w1 c1 => (op_indexA 5 rfl rfl (by kernel_rfl) ((hr_p01.old c1).addr h115.1 h115.2) hz_p01.2.2 h115.1 h115.2)) ?_
      refine lv 25 (by kernel_rfl) (fun w1 c1 => (op_loadR [.int .i64 ((ix p0.Items s104.2).Kind), .int .i64 ((ix p0.Items s104.2).Ref), .int .i64 ((ix p0.Items s104.2).Count), .int .i64 ((ix p0.Items s104.2).Price), .int .i64 ((ix p0.Items s104.2).Amount)] rfl (by kernel_rfl) ((hr_p01.old c1).row h115.1 h115.2))) ?_
      refine lm_alloc 9 [.int .i64 0, .int .i64 0, .int .i64 0, .int .i64 0, .int .i64 0] (v := .agg #[.int .i64 0, .int .i64 0, .int .i64 0, .int .i64 0, .int .i64 0]) (by kernel_rfl) (by kernel_rfl) rfl ?_
      intro b116
      refine lm_storeA 0 [.int .i64 _, .int .i64 _, .int .i64 _, .int .i64 _, .int .i64 _] [_, _, _, _, _] (H' := [blkE _ _ [_, _, _, _, _]]) (by kernel_rfl) rfl rfl (by kernel_rfl) rfl rfl (by kernel_rfl) rfl rfl ?_
      refine ln ?_
      refine xn ?_
      refine cq ?_
      refine cm_cutE [(39, .bool (((decide ((ix p0.Items s104.2).Ref = p1)) && (decide (2 ≤ (ix p0.Items s104.2).Kind))) && (decide ((ix p0.Items s104.2).Kind ≤ 4))))] ?_ ?_
      ·skip
       refine wv 26 (by kernel_rfl) (fun w1 c1 => (oF (m := 1) (k := 1) rfl (by kernel_rfl) rfl)) ?_
       refine wv 27 (by kernel_rfl) (fun w1 c1 => (ol rfl (by kernel_rfl) (c1.cell 0 (u := .int .i64 _) rfl rfl))) ?_
       refine wv 28 (by kernel_rfl) (fun w1 c1 => (om (v := .int .i64 _) rfl)) ?_
       refine wq_dec 29 (by kernel_rfl) (fun w1 c1 => (op_eql rfl rfl)) (fun h117 => ?_) (fun h117 => ?_)
       ·skip
        refine wv 30 (by kernel_rfl) (fun w1 c1 => (om (v := .bool true) rfl)) ?_
        refine wv 31 (by kernel_rfl) (fun w1 c1 => (oF (m := 0) (k := 0) rfl (by kernel_rfl) rfl)) ?_
        refine wv 32 (by kernel_rfl) (fun w1 c1 => (ol rfl (by kernel_rfl) (c1.cell 0 (u := .int .i64 _) rfl rfl))) ?_
        refine wq_dec 33 (by kernel_rfl) (fun w1 c1 => (op_geq rfl rfl)) (fun h118 => ?_) (fun h118 => ?_)
        ·skip
         refine wv 34 (by kernel_rfl) (fun w1 c1 => (opt (v := .bool true) rfl rfl)) ?_
         refine wv 35 (by kernel_rfl) (fun w1 c1 => (om (v := .bool true) rfl)) ?_
         refine wv 36 (by kernel_rfl) (fun w1 c1 => (oF (m := 0) (k := 0) rfl (by kernel_rfl) rfl)) ?_
         refine wv 37 (by kernel_rfl) (fun w1 c1 => (ol rfl (by kernel_rfl) (c1.cell 0 (u := .int .i64 _) rfl rfl))) ?_
         refine wv 38 (by kernel_rfl) (fun w1 c1 => (op_leq rfl rfl)) ?_
         refine wv 39 (by kernel_rfl) (fun w1 c1 => (opt (v := .bool _) rfl rfl)) ?_
         exact leaf_q (sub_out 14 _ rfl (by kernel_rfl) ⟨(congrArg Value.bool (by rw [decide_eq_true h117, decide_eq_true h118] <;> rfl)), trivial⟩)
        ·skip
         refine wv 34 (by kernel_rfl) (fun w1 c1 => (opt (v := .bool false) rfl rfl)) ?_
         refine wv 35 (by kernel_rfl) (fun w1 c1 => (om (v := .bool false) rfl)) ?_
         refine wk 36 (by kernel_rfl) ?_
         refine wk 37 (by kernel_rfl) ?_
         refine wk 38 (by kernel_rfl) ?_
         refine wv 39 (by kernel_rfl) (fun w1 c1 => (opf (v := .bool false) rfl rfl)) ?_
         exact leaf_q (sub_out 14 _ rfl (by kernel_rfl) ⟨(congrArg Value.bool (by rw [decide_eq_true h117, decide_eq_false h118] <;> rfl)), trivial⟩)
       ·skip
        refine wv 30 (by kernel_rfl) (fun w1 c1 => (om (v := .bool false) rfl)) ?_
        refine wk 31 (by kernel_rfl) ?_
        refine wk 32 (by kernel_rfl) ?_
        refine wk 33 (by kernel_rfl) ?_
        refine wv 34 (by kernel_rfl) (fun w1 c1 => (opf (v := .bool false) rfl rfl)) ?_
        refine wv 35 (by kernel_rfl) (fun w1 c1 => (om (v := .bool false) rfl)) ?_
        refine wk 36 (by kernel_rfl) ?_
        refine wk 37 (by kernel_rfl) ?_
        refine wk 38 (by kernel_rfl) ?_
        refine wv 39 (by kernel_rfl) (fun w1 c1 => (opf (v := .bool false) rfl rfl)) ?_
        exact leaf_q (sub_out 14 _ rfl (by kernel_rfl) ⟨(congrArg Value.bool (by rw [decide_eq_false h117] <;> rfl)), trivial⟩)
      refine xn ?_
      refine cm_condB (by kernel_rfl) rfl (fun h119 => ?_) (fun h119 => ?_)
      ·skip
       refine cr ?_
       refine lv 40 (by kernel_rfl) (fun w1 c1 => (om (v := .int .i64 _) rfl)) ?_
       refine lv 41 (by kernel_rfl) (fun w1 c1 => (oF (m := 4) (k := 4) rfl (by kernel_rfl) rfl)) ?_
       refine lv 42 (by kernel_rfl) (fun w1 c1 => (ol rfl (by kernel_rfl) (c1.cell 0 (u := .int .i64 _) rfl rfl))) ?_
       refine lm_ck (fun h120 => ?_)
       refine lv 43 (by kernel_rfl) (fun w1 c1 => (op_add rfl rfl h120)) ?_
       refine lv 7 (by kernel_rfl) (fun w1 c1 => (oa (v := .int .i64 _) rfl)) ?_
       refine ln ?_
       refine xm_inN ?_
       exact xm_lnext () (sc (by kernel_rfl) rfl (sc (by kernel_rfl) rfl (sc (by kernel_rfl) rfl (sc (by kernel_rfl) rfl (sc (by kernel_rfl) rfl sub_nil))))) (hsub [] (by kernel_rfl) rfl)
      ·skip
       refine cm_skip ?_
       refine xm_inN ?_
       exact xm_lnext () (sc (by kernel_rfl) rfl (sc (by kernel_rfl) rfl (sc (by kernel_rfl) rfl (sc (by kernel_rfl) rfl (sc (by kernel_rfl) rfl sub_nil))))) (hsub [] (by kernel_rfl) rfl)
     intro s113 u114
     refine cr ?_
     refine lm_ck (fun h121 => ?_)
     refine lv 44 (by kernel_rfl) (fun w1 c1 => (op_add rfl rfl h121)) ?_
     refine lv 22 (by kernel_rfl) (fun w1 c1 => (om (v := .int .i64 _) rfl)) ?_
     refine ln ?_
     exact xm_lnext () (sc (by kernel_rfl) rfl (sc (by kernel_rfl) rfl (sc (by kernel_rfl) rfl (sc (by kernel_rfl) rfl (sc (by kernel_rfl) rfl sub_nil))))) (hsub [] (by kernel_rfl) rfl)
    ·skip
     refine cm_exit ?_
     refine xm_thenE ?_
     refine xm_lexit ?_
     refine xm_here ?_
     exact xm_lnext () (sc (by kernel_rfl) rfl sub_nil) (hsub [] (by kernel_rfl) rfl)
   intro s66 u67
   refine cq ?_
   refine cr ?_
   refine lv 45 (by kernel_rfl) (fun w1 c1 => (om (v := .int .i64 _) rfl)) ?_
   refine lv 4 (by kernel_rfl) (fun w1 c1 => (oa (v := .int .i64 _) rfl)) ?_
   refine lv 5 (by kernel_rfl) (fun w1 c1 => (oa (v := .int .i64 _) rfl)) ?_
   refine ln ?_
   refine xn ?_
   refine cm_ret ?_
   exact xm_retTT rfl (by kernel_rfl) (show _ = Value.int .i64 _ from rfl) (by kernel_rfl) (show _ = Value.int .i64 _ from rfl) fun w1 c1 => ⟨(), rfl, hsub [] (by kernel_rfl) rfl w1 c1⟩
/-- recyclingref57.items -/
def m_recyclingref57_items (N : Nat) (p0 : ApiBill) : Option (Int) :=
 (if 512 < (List.length p0.Items : Int) then
  some ((8 : Int))
 else
  (andThen
   (loopM (fun (s49 : Int) =>
    (if s49 < (List.length p0.Items : Int) then
     ck ((0 : Int) ≤ s49 ∧ s49 < (List.length p0.Items : Int)) (
      ck ((!(decide ((ix p0.Items s49).Amount < -1000000000000))) = true → (0 : Int) ≤ s49 ∧ s49 < (List.length p0.Items : Int)) (
       (if ((decide ((ix p0.Items s49).Amount < -1000000000000)) || (decide (1000000000000 < (ix p0.Items s49).Amount))) = true then
        some (.done (.done ((1 : Int))))
       else
        ck (I64 (s49 + (1 : Int))) (
         some (.next (s49 + (1 : Int)))))))
    else
     some (.done (.next ())))) N (0 : Int))
  fun (_s31 : Unit) =>
   some ((0 : Int))))
set_option maxHeartbeats 2000000 in
set_option maxRecDepth 20000 in
theorem m_recyclingref57_items_ok (N : Nat) (w0 : World) (p0 : ApiBill) (A_p01 : Option Addr) (n_p01 c_p01 : Nat) (hr_p01 : RdE w0 5 encApiItem A_p01 p0.Items) (hz_p01 : SW A_p01 n_p01 c_p01 (List.length p0.Items)) (r : Int) (hr : m_recyclingref57_items N p0 = some r) :
  Calls Tryz.prog 18 [.agg #[.int .i64 p0.ID, .int .i64 p0.Household, .int .i64 p0.When.From, .int .i64 p0.When.To, .slice A_p01 n_p01 c_p01, .int .i64 p0.Total]].toArray w0 fun x w1 => ∃ u, x = .returned ((fun (r : Int) (_u : Unit) => .int .i64 r) r u) ∧ Hs w0 ((fun (_r : Int) (_u : Unit) => []) r u) w1 := by
 refine calls_cm (n := 31) (R := fun r x w1 => ∃ u, x = .returned ((fun (r : Int) (_u : Unit) => .int .i64 r) r u) ∧ Hs w0 ((fun (_r : Int) (_u : Unit) => []) r u) w1) Tryz.func18 rfl rfl (Nat.le_of_ble_eq_true rfl) ?_ r hr
 unfold m_recyclingref57_items
 refine cq ?_
 refine cr ?_
 refine lm_box 1 [.int .i64 _, .int .i64 _, .int .i64 _, .int .i64 _, .slice _ _ _, .int .i64 _] (by kernel_rfl) rfl ?_
 intro b5
 refine lv 2 (by kernel_rfl) (fun w1 c1 => (oa (v := .int .i64 _) rfl)) ?_
 refine ln ?_
 refine xn ?_
 refine cq ?_
 refine cq ?_
 refine cr ?_
 refine lv 4 (by kernel_rfl) (fun w1 c1 => (oF (m := 4) (k := 4) rfl (by kernel_rfl) rfl)) ?_
 refine lv 5 (by kernel_rfl) (fun w1 c1 => (ol rfl (by kernel_rfl) (c1.cell 0 (u := .slice _ _ _) rfl rfl))) ?_
 refine lv 6 (by kernel_rfl) (fun w1 c1 => (op_lenN rfl (by kernel_rfl) hz_p01.2.2)) ?_
 refine lv 7 (by kernel_rfl) (fun w1 c1 => (op_gtr rfl rfl)) ?_
 refine ln ?_
 refine xn ?_
 refine cm_cond (by kernel_rfl) rfl (fun h6 => ?_) (fun h6 => ?_)
 ·skip
  refine cq ?_
  refine cr ?_
  refine lv 2 (by kernel_rfl) (fun w1 c1 => (oa (v := .int .i64 _) rfl)) ?_
  refine ln ?_
  refine xn ?_
  refine cm_ret ?_
  refine xm_thenR ?_
  exact xm_retT rfl (by kernel_rfl) (show _ = Value.int .i64 _ from rfl) fun w1 c1 => ⟨(), rfl, hsub [] (by kernel_rfl) rfl w1 c1⟩
 ·skip
  refine cm_skip ?_
  refine xn ?_
  refine cm_join (σ := Unit) (ξ := Unit) (fun s31 u32 => []) (fun s31 u32 => []) ?_ ?_
  ·skip
   refine cq ?_
   refine cr ?_
   refine lv 3 (by kernel_rfl) (fun w1 c1 => (oa (v := .int .i64 _) rfl)) ?_
   refine ln ?_
   refine xn ?_
   refine cm_block ?_
   refine cm_loop (σ := Int) (ξ := Unit) (fun s49 u50 => [(1, .pointer (some ⟨b5, 0, none⟩)), (3, .int .i64 s49)]) (fun s49 u50 => [blkE b5 33 [.int .i64 p0.ID, .int .i64 p0.Household, .int .i64 p0.When.From, .int .i64 p0.When.To, .slice A_p01 n_p01 c_p01, .int .i64 p0.Total]]) () ?_ ?_ ?_
   ·exact (sc (by kernel_rfl) rfl (sc (by kernel_rfl) rfl sub_nil))
   ·exact hsub [0] (by kernel_rfl) rfl
   intro s49 u50
   refine cq ?_
   refine cq ?_
   refine cr ?_
   refine lv 8 (by kernel_rfl) (fun w1 c1 => (om (v := .int .i64 _) rfl)) ?_
   refine lv 9 (by kernel_rfl) (fun w1 c1 => (oF (m := 4) (k := 4) rfl (by kernel_rfl) rfl)) ?_
   refine lv 10 (by kernel_rfl) (fun w1 c1 => (ol rfl (by kernel_rfl) (c1.cell 0 (u := .slice _ _ _) rfl rfl))) ?_
   refine lv 11 (by kernel_rfl) (fun w1 c1 => (op_lenN rfl (by kernel_rfl) hz_p01.2.2)) ?_
   refine lv 12 (by kernel_rfl) (fun w1 c1 => (op_lss rfl rfl)) ?_
   refine ln ?_
   refine xn ?_
   refine cm_cond (by kernel_rfl) rfl (fun h51 => ?_) (fun h51 => ?_)
   ·skip
    refine cm_skip ?_
    refine xn ?_
    refine cq ?_
    refine cm_block ?_
    refine cq ?_
    refine cm_ck (fun h52 => ?_)
    refine cm_ck (fun h53 => ?_)
    refine cm_cutE [(30, .bool ((decide ((ix p0.Items s49).Amount < -1000000000000)) || (decide (1000000000000 < (ix p0.Items s49).Amount))))] ?_ ?_
    ·skip
     refine wv 15 (by kernel_rfl) (fun w1 c1 => (oF (m := 4) (k := 4) rfl (by kernel_rfl) rfl)) ?_
     refine wv 16 (by kernel_rfl) (fun w1 c1 => (ol rfl (by kernel_rfl) (c1.cell 0 (u := .slice _ _ _) rfl rfl))) ?_
     refine wv 17 (by kernel_rfl) (fun w1 c1 => (om (v := .int .i64 _) rfl)) ?_
     refine wv 18 (by kernel_rfl) (fun w1 c1 => (op_indexA 5 rfl rfl (by kernel_rfl) ((hr_p01.old c1).addr h52.1 h52.2) hz_p01.2.2 h52.1 h52.2)) ?_
     refine wv 19 (by kernel_rfl) (fun w1 c1 => (op_field (m := 4) rfl (by kernel_rfl))) ?_
     refine wv 20 (by kernel_rfl) (fun w1 c1 => (ol (v := .int .i64 ((ix p0.Items s49).Amount)) rfl (by kernel_rfl) ((hr_p01.old c1).cell (j := 4) h52.1 h52.2 rfl))) ?_
     refine wq_dec 21 (by kernel_rfl) (fun w1 c1 => (op_lss rfl rfl)) (fun h54 => ?_) (fun h54 => ?_)
     ·skip
      refine wv 22 (by kernel_rfl) (fun w1 c1 => (om (v := .bool true) rfl)) ?_
      refine wk 23 (by kernel_rfl) ?_
      refine wk 24 (by kernel_rfl) ?_
      refine wk 25 (by kernel_rfl) ?_
      refine wk 26 (by kernel_rfl) ?_
      refine wk 27 (by kernel_rfl) ?_
      refine wk 28 (by kernel_rfl) ?_
      refine wk 29 (by kernel_rfl) ?_
      refine wv 30 (by kernel_rfl) (fun w1 c1 => (opt (v := .bool true) rfl rfl)) ?_
      exact leaf_q (sub_out 16 _ rfl (by kernel_rfl) ⟨(congrArg Value.bool (by rw [decide_eq_true h54] <;> rfl)), trivial⟩)
     ·skip
      refine wv 22 (by kernel_rfl) (fun w1 c1 => (om (v := .bool false) rfl)) ?_
      refine wv 23 (by kernel_rfl) (fun w1 c1 => (oF (m := 4) (k := 4) rfl (by kernel_rfl) rfl)) ?_
      refine wv 24 (by kernel_rfl) (fun w1 c1 => (ol rfl (by kernel_rfl) (c1.cell 0 (u := .slice _ _ _) rfl rfl))) ?_
      refine wv 25 (by kernel_rfl) (fun w1 c1 => (om (v := .int .i64 _) rfl)) ?_
      refine wv 26 (by kernel_rfl) (fun w1 c1 => (op_indexA 5 rfl rfl (by kernel_rfl) ((hr_p01.old c1).addr (h53 (by rw [decide_eq_false h54] <;> rfl)).1 (h53 (by rw [decide_eq_false h54] <;> rfl)).2) hz_p01.2.2 (h53 (by rw [decide_eq_false h54] <;> rfl)).1 (h53 (by rw [decide_eq_false h54] <;> rfl)).2)) ?_
      refine wv 27 (by kernel_rfl) (fun w1 c1 => (op_field (m := 4) rfl (by kernel_rfl))) ?_
      refine wv 28 (by kernel_rfl) (fun w1 c1 => (ol (v := .int .i64 ((ix p0.Items s49).Amount)) rfl (by kernel_rfl) ((hr_p01.old c1).cell (j := 4) (h53 (by rw [decide_eq_false h54] <;> rfl)).1 (h53 (by rw [decide_eq_false h54] <;> rfl)).2 rfl))) ?_
      refine wv 29 (by kernel_rfl) (fun w1 c1 => (op_gtr rfl rfl)) ?_
      refine wv 30 (by kernel_rfl) (fun w1 c1 => (opf (v := .bool _) rfl rfl)) ?_
      exact leaf_q (sub_out 16 _ rfl (by kernel_rfl) ⟨(congrArg Value.bool (by rw [decide_eq_false h54] <;> rfl)), trivial⟩)
    refine xn ?_
    refine cm_condB (by kernel_rfl) rfl (fun h55 => ?_) (fun h55 => ?_)
    ·skip
     refine cq ?_
     refine cr ?_
     refine lv 2 (by kernel_rfl) (fun w1 c1 => (oa (v := .int .i64 _) rfl)) ?_
     refine ln ?_
     refine xn ?_
     refine cm_ret ?_
     refine xm_inR ?_
     refine xm_thenR ?_
     refine xm_lret ?_
     refine xm_inR ?_
     refine xm_lret ?_
     exact xm_retT rfl (by kernel_rfl) (show _ = Value.int .i64 _ from rfl) fun w1 c1 => ⟨(), rfl, hsub [] (by kernel_rfl) rfl w1 c1⟩
    ·skip
     refine cm_skip ?_
     refine xm_inN ?_
     refine xn ?_
     refine cr ?_
     refine lv 13 (by kernel_rfl) (fun w1 c1 => (om (v := .int .i64 _) rfl)) ?_
     refine lm_ck (fun h56 => ?_)
     refine lv 14 (by kernel_rfl) (fun w1 c1 => (op_add rfl rfl h56)) ?_
     refine lv 3 (by kernel_rfl) (fun w1 c1 => (oa (v := .int .i64 _) rfl)) ?_
     refine ln ?_
     exact xm_lnext () (sc (by kernel_rfl) rfl (sc (by kernel_rfl) rfl sub_nil)) (hsub [0] (by kernel_rfl) rfl)
   ·skip
    refine cm_exit ?_
    refine xm_thenE ?_
    refine xm_lexit ?_
    refine xm_here ?_
    exact xm_lnext () sub_nil (hsub [] (by kernel_rfl) rfl)
  intro s31 u32
  refine cq ?_
  refine cr ?_
  refine lv 2 (by kernel_rfl) (fun w1 c1 => (oa (v := .int .i64 _) rfl)) ?_
  refine ln ?_
  refine xn ?_
  refine cm_ret ?_
  exact xm_retT rfl (by kernel_rfl) (show _ = Value.int .i64 _ from rfl) fun w1 c1 => ⟨(), rfl, hsub [] (by kernel_rfl) rfl w1 c1⟩
/-- recyclingref57.Rest -/
def m_recyclingref57_Rest (N : Nat) (p0 : ApiBill) (p1 : Int) : Option (Int × Int) :=
 Option.bind (m_recyclingref57_items N p0) fun r6 => (if r6 ≠ 0 then
  some (((0 : Int), r6))
 else
  (andThen
   (loopM (fun (s211 : Int × Int × Bool × Int) =>
    (if s211.2.2.2 < (List.length p0.Items : Int) then
     (andThen
      (ck ((0 : Int) ≤ s211.2.2.2 ∧ s211.2.2.2 < (List.length p0.Items : Int)) (
       (if (ix p0.Items s211.2.2.2).Ref ≠ p1 then
        some (.next (s211.1, s211.2.1, s211.2.2.1))
       else
        (andThen
         (if (ix p0.Items s211.2.2.2).Kind = 2 then
          some (.next true)
         else
          some (.next s211.2.2.1))
        fun (s237 : Bool) =>
         (andThen
          (if ((decide ((ix p0.Items s211.2.2.2).Kind = 2)) || (decide ((ix p0.Items s211.2.2.2).Kind = 3))) = true then
           ck (I64 (s211.1 + ((ix p0.Items s211.2.2.2).Amount))) (
            some (.next (s211.1 + ((ix p0.Items s211.2.2.2).Amount))))
          else
           some (.next s211.1))
         fun (s243 : Int) =>
          (if (ix p0.Items s211.2.2.2).Kind = 4 then
           ck (I64 (s211.2.1 - ((ix p0.Items s211.2.2.2).Amount))) (
            some (.next (s243, (s211.2.1 - ((ix p0.Items s211.2.2.2).Amount)), s237)))
          else
           some (.next (s243, s211.2.1, s237))))))))
     fun (s231 : Int × Int × Bool) =>
      ck (I64 (s211.2.2.2 + (1 : Int))) (
       some (.next (s231.1, s231.2.1, s231.2.2, (s211.2.2.2 + (1 : Int))))))
    else
     some (.done (.next (s211.1, s211.2.1, s211.2.2.1))))) N ((0 : Int), (0 : Int), false, (0 : Int)))
  fun (s129 : Int × Int × Bool) =>
   (if (!s129.2.2) = true then
    some (((0 : Int), (7 : Int)))
   else
    ck (I64 (s129.1 - s129.2.1)) (
     some (((s129.1 - s129.2.1), (0 : Int)))))))
set_option maxHeartbeats 2000000 in
set_option maxRecDepth 20000 in
theorem m_recyclingref57_Rest_ok (N : Nat) (w0 : World) (p0 : ApiBill) (p1 : Int) (A_p01 : Option Addr) (n_p01 c_p01 : Nat) (hr_p01 : RdE w0 5 encApiItem A_p01 p0.Items) (hz_p01 : SW A_p01 n_p01 c_p01 (List.length p0.Items)) (r : Int × Int) (hr : m_recyclingref57_Rest N p0 p1 = some r) :
  Calls Tryz.prog 20 [.agg #[.int .i64 p0.ID, .int .i64 p0.Household, .int .i64 p0.When.From, .int .i64 p0.When.To, .slice A_p01 n_p01 c_p01, .int .i64 p0.Total], .int .i64 p1].toArray w0 fun x w1 => ∃ u, x = .returned ((fun (r : Int × Int) (_u : Unit) => .tuple #[.int .i64 r.1, .int .i64 r.2]) r u) ∧ Hs w0 ((fun (_r : Int × Int) (_u : Unit) => []) r u) w1 := by
 refine calls_cm (n := 60) (R := fun r x w1 => ∃ u, x = .returned ((fun (r : Int × Int) (_u : Unit) => .tuple #[.int .i64 r.1, .int .i64 r.2]) r u) ∧ Hs w0 ((fun (_r : Int × Int) (_u : Unit) => []) r u) w1) Tryz.func20 rfl rfl (Nat.le_of_ble_eq_true rfl) ?_ r hr
 unfold m_recyclingref57_Rest
 refine cq ?_
 refine cr ?_
 refine lm_box 2 [.int .i64 _, .int .i64 _, .int .i64 _, .int .i64 _, .slice _ _ _, .int .i64 _] (by kernel_rfl) rfl ?_
 intro b5
 refine lv 4 (by kernel_rfl) (fun w1 c1 => (oa (v := .int .i64 _) rfl)) ?_
 refine lv 5 (by kernel_rfl) (fun w1 c1 => (oa (v := .int .i64 _) rfl)) ?_
 refine ln ?_
 refine xn ?_
 refine cq ?_
 refine cr ?_
 refine lv 12 (by kernel_rfl) (fun w1 c1 => (op_loadR [.int .i64 _, .int .i64 _, .int .i64 _, .int .i64 _, .slice _ _ _, .int .i64 _] rfl (by kernel_rfl) (c1.cells 0 rfl rfl))) ?_
 refine lm_call 13 (V := (fun (r : Int) (_u : Unit) => .int .i64 r)) (HR := (fun (_r : Int) (_u : Unit) => [])) (by kernel_rfl) (fun w1 => op_call (by kernel_rfl)) (fun r1 hr1 w1 c1 => m_recyclingref57_items_ok N w1 p0 A_p01 n_p01 c_p01 (hr_p01.old c1) hz_p01 r1 hr1) ?_
 intro r6 u7
 refine lv 6 (by kernel_rfl) (fun w1 c1 => (oa (v := .int .i64 _) rfl)) ?_
 refine ln ?_
 refine xn ?_
 refine cq ?_
 refine cq ?_
 refine cr ?_
 refine lv 14 (by kernel_rfl) (fun w1 c1 => (om (v := .int .i64 _) rfl)) ?_
 refine lv 15 (by kernel_rfl) (fun w1 c1 => (op_neq rfl rfl)) ?_
 refine ln ?_
 refine xn ?_
 refine cm_cond (by kernel_rfl) rfl (fun h8 => ?_) (fun h8 => ?_)
 ·skip
  refine cq ?_
  refine cr ?_
  refine lv 16 (by kernel_rfl) (fun w1 c1 => (om (v := .int .i64 _) rfl)) ?_
  refine lv 4 (by kernel_rfl) (fun w1 c1 => (oa (v := .int .i64 _) rfl)) ?_
  refine lv 5 (by kernel_rfl) (fun w1 c1 => (oa (v := .int .i64 _) rfl)) ?_
  refine ln ?_
  refine xn ?_
  refine cm_ret ?_
  refine xm_thenR ?_
  exact xm_retTT rfl (by kernel_rfl) (show _ = Value.int .i64 _ from rfl) (by kernel_rfl) (show _ = Value.int .i64 _ from rfl) fun w1 c1 => ⟨(), rfl, hsub [] (by kernel_rfl) rfl w1 c1⟩
 ·skip
  refine cm_skip ?_
  refine xn ?_
  refine cq ?_
  refine cr ?_
  refine lv 7 (by kernel_rfl) (fun w1 c1 => (oa (v := .int .i64 _) rfl)) ?_
  refine ln ?_
  refine xn ?_
  refine cq ?_
  refine cr ?_
  refine lv 8 (by kernel_rfl) (fun w1 c1 => (oa (v := .int .i64 _) rfl)) ?_
  refine ln ?_
  refine xn ?_
  refine cq ?_
  refine cr ?_
  refine lv 9 (by kernel_rfl) (fun w1 c1 => (oa (v := .bool false) rfl)) ?_
  refine ln ?_
  refine xn ?_
  refine cm_join (σ := Int × Int × Bool) (ξ := Unit) (fun s129 u130 => [(7, .int .i64 s129.1), (8, .int .i64 s129.2.1), (9, .bool s129.2.2)]) (fun s129 u130 => []) ?_ ?_
  ·skip
   refine cq ?_
   refine cr ?_
   refine lv 10 (by kernel_rfl) (fun w1 c1 => (oa (v := .int .i64 _) rfl)) ?_
   refine ln ?_
   refine xn ?_
   refine cm_block ?_
   refine cm_loop (σ := Int × Int × Bool × Int) (ξ := Unit) (fun s211 u212 => [(1, .int .i64 p1), (2, .pointer (some ⟨b5, 0, none⟩)), (7, .int .i64 s211.1), (8, .int .i64 s211.2.1), (9, .bool s211.2.2.1), (10, .int .i64 s211.2.2.2)]) (fun s211 u212 => [blkE b5 33 [.int .i64 p0.ID, .int .i64 p0.Household, .int .i64 p0.When.From, .int .i64 p0.When.To, .slice A_p01 n_p01 c_p01, .int .i64 p0.Total]]) () ?_ ?_ ?_
   ·exact (sc (by kernel_rfl) rfl (sc (by kernel_rfl) rfl (sc (by kernel_rfl) rfl (sc (by kernel_rfl) rfl (sc (by kernel_rfl) rfl (sc (by kernel_rfl) rfl sub_nil))))))
   ·exact hsub [0] (by kernel_rfl) rfl
   intro s211 u212
   refine cq ?_
   refine cq ?_
   refine cr ?_
   refine lv 17 (by kernel_rfl) (fun w1 c1 => (om (v := .int .i64 _) rfl)) ?_
   refine lv 18 (by kernel_rfl) (fun w1 c1 => (oF (m := 4) (k := 4) rfl (by kernel_rfl) rfl)) ?_
   refine lv 19 (by kernel_rfl) (fun w1 c1 => (ol rfl (by kernel_rfl) (c1.cell 0 (u := .slice _ _ _) rfl rfl))) ?_
   refine lv 20 (by kernel_rfl) (fun w1 c1 => (op_lenN rfl (by kernel_rfl) hz_p01.2.2)) ?_
   refine lv 21 (by kernel_rfl) (fun w1 c1 => (op_lss rfl rfl)) ?_
   refine ln ?_
   refine xn ?_
   refine cm_cond (by kernel_rfl) rfl (fun h213 => ?_) (fun h213 => ?_)
   ·skip
    refine cm_skip ?_
    refine xn ?_
    refine cm_join (σ := Int × Int × Bool) (ξ := Unit) (fun s231 u232 => [(1, .int .i64 p1), (2, .pointer (some ⟨b5, 0, none⟩)), (7, .int .i64 s231.1), (8, .int .i64 s231.2.1), (9, .bool s231.2.2), (10, .int .i64 s211.2.2.2)]) (fun s231 u232 => [blkE b5 33 [.int .i64 p0.ID, .int .i64 p0.Household, .int .i64 p0.When.From, .int .i64 p0.When.To, .slice A_p01 n_p01 c_p01, .int .i64 p0.Total]]) ?_ ?_
    ·skip
     refine cm_block ?_
     refine cq ?_
     refine cr ?_
     refine lv 24 (by kernel_rfl) (fun w1 c1 => (oF (m := 4) (k := 4) rfl (by kernel_rfl) rfl)) ?_
     refine lv 25 (by kernel_rfl) (fun w1 c1 => (ol rfl (by kernel_rfl) (c1.cell 0 (u := .slice _ _ _) rfl rfl))) ?_
     refine lv 26 (by kernel_rfl) (fun w1 c1 => (om (v := .int .i64 _) rfl)) ?_
     refine lm_ck (fun h233 => ?_)
     refine lv 27 (by kernel_rfl) (fun w1 c1 => (op_indexA 5 rfl rfl (by kernel_rfl) ((hr_p01.old c1).addr h233.1 h233.2) hz_p01.2.2 h233.1 h233.2)) ?_
     refine lv 28 (by kernel_rfl) (fun w1 c1 => (op_loadR [.int .i64 ((ix p0.Items s211.2.2.2).Kind), .int .i64 ((ix p0.Items s211.2.2.2).Ref), .int .i64 ((ix p0.Items s211.2.2.2).Count), .int .i64 ((ix p0.Items s211.2.2.2).Price), .int .i64 ((ix p0.Items s211.2.2.2).Amount)] rfl (by kernel_rfl) ((hr_p01.old c1).row h233.1 h233.2))) ?_
     refine lm_alloc 11 [.int .i64 0, .int .i64 0, .int .i64 0, .int .i64 0, .int .i64 0] (v := .agg #[.int .i64 0, .int .i64 0, .int .i64 0, .int .i64 0, .int .i64 0]) (by kernel_rfl) (by kernel_rfl) rfl ?_
     intro b234
     refine lm_storeA 0 [.int .i64 _, .int .i64 _, .int .i64 _, .int .i64 _, .int .i64 _] [_, _, _, _, _] (H' := [blkE _ _ [_, _, _, _, _], _]) (by kernel_rfl) rfl rfl (by kernel_rfl) rfl rfl (by kernel_rfl) rfl rfl ?_
     refine ln ?_
     refine xn ?_
     refine cq ?_
     refine cq ?_
     refine cr ?_
     refine lv 29 (by kernel_rfl) (fun w1 c1 => (oF (m := 1) (k := 1) rfl (by kernel_rfl) rfl)) ?_
     refine lv 30 (by kernel_rfl) (fun w1 c1 => (ol rfl (by kernel_rfl) (c1.cell 0 (u := .int .i64 _) rfl rfl))) ?_
     refine lv 31 (by kernel_rfl) (fun w1 c1 => (om (v := .int .i64 _) rfl)) ?_
     refine lv 32 (by kernel_rfl) (fun w1 c1 => (op_neq rfl rfl)) ?_
     refine ln ?_
     refine xn ?_
     refine cm_cond (by kernel_rfl) rfl (fun h235 => ?_) (fun h235 => ?_)
     ·skip
      refine cm_exit ?_
      refine xm_thenE ?_
      refine xm_here ?_
      exact xm_lnext () (sc (by kernel_rfl) rfl (sc (by kernel_rfl) rfl (sc (by kernel_rfl) rfl (sc (by kernel_rfl) rfl (sc (by kernel_rfl) rfl (sc (by kernel_rfl) rfl sub_nil)))))) (hsub [1] (by kernel_rfl) rfl)
     ·skip
      refine cm_skip ?_
      refine xn ?_
      refine cm_join (σ := Bool) (ξ := Unit) (fun s237 u238 => [(1, .int .i64 p1), (2, .pointer (some ⟨b5, 0, none⟩)), (7, .int .i64 s211.1), (8, .int .i64 s211.2.1), (9, .bool s237), (10, .int .i64 s211.2.2.2), (11, .pointer (some ⟨b234, 0, none⟩))]) (fun s237 u238 => [blkE b5 33 [.int .i64 p0.ID, .int .i64 p0.Household, .int .i64 p0.When.From, .int .i64 p0.When.To, .slice A_p01 n_p01 c_p01, .int .i64 p0.Total], blkE b234 66 [.int .i64 ((ix p0.Items s211.2.2.2).Kind), .int .i64 ((ix p0.Items s211.2.2.2).Ref), .int .i64 ((ix p0.Items s211.2.2.2).Count), .int .i64 ((ix p0.Items s211.2.2.2).Price), .int .i64 ((ix p0.Items s211.2.2.2).Amount)]]) ?_ ?_
      ·skip
       refine cq ?_
       refine cr ?_
       refine lv 33 (by kernel_rfl) (fun w1 c1 => (oF (m := 0) (k := 0) rfl (by kernel_rfl) rfl)) ?_
       refine lv 34 (by kernel_rfl) (fun w1 c1 => (ol rfl (by kernel_rfl) (c1.cell 0 (u := .int .i64 _) rfl rfl))) ?_
       refine lv 35 (by kernel_rfl) (fun w1 c1 => (op_eql rfl rfl)) ?_
       refine ln ?_
       refine xn ?_
       refine cm_cond (by kernel_rfl) rfl (fun h239 => ?_) (fun h239 => ?_)
       ·skip
        refine cr ?_
        refine lv 9 (by kernel_rfl) (fun w1 c1 => (oa (v := .bool true) rfl)) ?_
        refine ln ?_
        exact xm_lnext () (sc (by kernel_rfl) rfl (sc (by kernel_rfl) rfl (sc (by kernel_rfl) rfl (sc (by kernel_rfl) rfl (sc (by kernel_rfl) rfl (sc (by kernel_rfl) rfl (sc (by kernel_rfl) rfl sub_nil))))))) (hsub [1, 0] (by kernel_rfl) rfl)
       ·skip
        refine cm_skip ?_
        exact xm_lnext () (sc (by kernel_rfl) rfl (sc (by kernel_rfl) rfl (sc (by kernel_rfl) rfl (sc (by kernel_rfl) rfl (sc (by kernel_rfl) rfl (sc (by kernel_rfl) rfl (sc (by kernel_rfl) rfl sub_nil))))))) (hsub [1, 0] (by kernel_rfl) rfl)
      intro s237 u238
      refine cm_join (σ := Int) (ξ := Unit) (fun s243 u244 => [(1, .int .i64 p1), (2, .pointer (some ⟨b5, 0, none⟩)), (7, .int .i64 s243), (8, .int .i64 s211.2.1), (9, .bool s237), (10, .int .i64 s211.2.2.2), (11, .pointer (some ⟨b234, 0, none⟩))]) (fun s243 u244 => [blkE b5 33 [.int .i64 p0.ID, .int .i64 p0.Household, .int .i64 p0.When.From, .int .i64 p0.When.To, .slice A_p01 n_p01 c_p01, .int .i64 p0.Total], blkE b234 66 [.int .i64 ((ix p0.Items s211.2.2.2).Kind), .int .i64 ((ix p0.Items s211.2.2.2).Ref), .int .i64 ((ix p0.Items s211.2.2.2).Count), .int .i64 ((ix p0.Items s211.2.2.2).Price), .int .i64 ((ix p0.Items s211.2.2.2).Amount)]]) ?_ ?_
      ·skip
       refine cq ?_
       refine cm_cutE [(43, .bool ((decide ((ix p0.Items s211.2.2.2).Kind = 2)) || (decide ((ix p0.Items s211.2.2.2).Kind = 3))))] ?_ ?_
       ·skip
        refine wv 36 (by kernel_rfl) (fun w1 c1 => (oF (m := 0) (k := 0) rfl (by kernel_rfl) rfl)) ?_
        refine wv 37 (by kernel_rfl) (fun w1 c1 => (ol rfl (by kernel_rfl) (c1.cell 1 (u := .int .i64 _) rfl rfl))) ?_
        refine wq_dec 38 (by kernel_rfl) (fun w1 c1 => (op_eql rfl rfl)) (fun h245 => ?_) (fun h245 => ?_)
        ·skip
         refine wv 39 (by kernel_rfl) (fun w1 c1 => (om (v := .bool true) rfl)) ?_
         refine wk 40 (by kernel_rfl) ?_
         refine wk 41 (by kernel_rfl) ?_
         refine wk 42 (by kernel_rfl) ?_
         refine wv 43 (by kernel_rfl) (fun w1 c1 => (opt (v := .bool true) rfl rfl)) ?_
         exact leaf_q (sub_out 8 _ rfl (by kernel_rfl) ⟨(congrArg Value.bool (by rw [decide_eq_true h245] <;> rfl)), trivial⟩)
        ·skip
         refine wv 39 (by kernel_rfl) (fun w1 c1 => (om (v := .bool false) rfl)) ?_
         refine wv 40 (by kernel_rfl) (fun w1 c1 => (oF (m := 0) (k := 0) rfl (by kernel_rfl) rfl)) ?_
         refine wv 41 (by kernel_rfl) (fun w1 c1 => (ol rfl (by kernel_rfl) (c1.cell 1 (u := .int .i64 _) rfl rfl))) ?_
         refine wv 42 (by kernel_rfl) (fun w1 c1 => (op_eql rfl rfl)) ?_
         refine wv 43 (by kernel_rfl) (fun w1 c1 => (opf (v := .bool _) rfl rfl)) ?_
         exact leaf_q (sub_out 8 _ rfl (by kernel_rfl) ⟨(congrArg Value.bool (by rw [decide_eq_false h245] <;> rfl)), trivial⟩)
       refine xn ?_
       refine cm_condB (by kernel_rfl) rfl (fun h246 => ?_) (fun h246 => ?_)
       ·skip
        refine cr ?_
        refine lv 44 (by kernel_rfl) (fun w1 c1 => (om (v := .int .i64 _) rfl)) ?_
        refine lv 45 (by kernel_rfl) (fun w1 c1 => (oF (m := 4) (k := 4) rfl (by kernel_rfl) rfl)) ?_
        refine lv 46 (by kernel_rfl) (fun w1 c1 => (ol rfl (by kernel_rfl) (c1.cell 1 (u := .int .i64 _) rfl rfl))) ?_
        refine lm_ck (fun h247 => ?_)
        refine lv 47 (by kernel_rfl) (fun w1 c1 => (op_add rfl rfl h247)) ?_
        refine lv 7 (by kernel_rfl) (fun w1 c1 => (oa (v := .int .i64 _) rfl)) ?_
        refine ln ?_
        exact xm_lnext () (sc (by kernel_rfl) rfl (sc (by kernel_rfl) rfl (sc (by kernel_rfl) rfl (sc (by kernel_rfl) rfl (sc (by kernel_rfl) rfl (sc (by kernel_rfl) rfl (sc (by kernel_rfl) rfl sub_nil))))))) (hsub [0, 1] (by kernel_rfl) rfl)
       ·skip
        refine cm_skip ?_
        exact xm_lnext () (sc (by kernel_rfl) rfl (sc (by kernel_rfl) rfl (sc (by kernel_rfl) rfl (sc (by kernel_rfl) rfl (sc (by kernel_rfl) rfl (sc (by kernel_rfl) rfl (sc (by kernel_rfl) rfl sub_nil))))))) (hsub [0, 1] (by kernel_rfl) rfl)
      intro s243 u244
      refine cq ?_
      refine cr ?_
      refine lv 48 (by kernel_rfl) (fun w1 c1 => (oF (m := 0) (k := 0) rfl (by kernel_rfl) rfl)) ?_
      refine lv 49 (by kernel_rfl) (fun w1 c1 => (ol rfl (by kernel_rfl) (c1.cell 1 (u := .int .i64 _) rfl rfl))) ?_
      refine lv 50 (by kernel_rfl) (fun w1 c1 => (op_eql rfl rfl)) ?_
      refine ln ?_
      refine xn ?_
      refine cm_cond (by kernel_rfl) rfl (fun h248 => ?_) (fun h248 => ?_)
      ·skip
       refine cr ?_
       refine lv 51 (by kernel_rfl) (fun w1 c1 => (om (v := .int .i64 _) rfl)) ?_
       refine lv 52 (by kernel_rfl) (fun w1 c1 => (oF (m := 4) (k := 4) rfl (by kernel_rfl) rfl)) ?_
       refine lv 53 (by kernel_rfl) (fun w1 c1 => (ol rfl (by kernel_rfl) (c1.cell 1 (u := .int .i64 _) rfl rfl))) ?_
       refine lm_ck (fun h249 => ?_)
       refine lv 54 (by kernel_rfl) (fun w1 c1 => (op_sub rfl rfl h249)) ?_
       refine lv 8 (by kernel_rfl) (fun w1 c1 => (oa (v := .int .i64 _) rfl)) ?_
       refine ln ?_
       refine xm_inN ?_
       exact xm_lnext () (sc (by kernel_rfl) rfl (sc (by kernel_rfl) rfl (sc (by kernel_rfl) rfl (sc (by kernel_rfl) rfl (sc (by kernel_rfl) rfl (sc (by kernel_rfl) rfl sub_nil)))))) (hsub [0] (by kernel_rfl) rfl)
      ·skip
       refine cm_skip ?_
       refine xm_inN ?_
       exact xm_lnext () (sc (by kernel_rfl) rfl (sc (by kernel_rfl) rfl (sc (by kernel_rfl) rfl (sc (by kernel_rfl) rfl (sc (by kernel_rfl) rfl (sc (by kernel_rfl) rfl sub_nil)))))) (hsub [0] (by kernel_rfl) rfl)
    intro s231 u232
    refine cr ?_
    refine lv 22 (by kernel_rfl) (fun w1 c1 => (om (v := .int .i64 _) rfl)) ?_
    refine lm_ck (fun h250 => ?_)
    refine lv 23 (by kernel_rfl) (fun w1 c1 => (op_add rfl rfl h250)) ?_
    refine lv 10 (by kernel_rfl) (fun w1 c1 => (oa (v := .int .i64 _) rfl)) ?_
    refine ln ?_
    exact xm_lnext () (sc (by kernel_rfl) rfl (sc (by kernel_rfl) rfl (sc (by kernel_rfl) rfl (sc (by kernel_rfl) rfl (sc (by kernel_rfl) rfl (sc (by kernel_rfl) rfl sub_nil)))))) (hsub [0] (by kernel_rfl) rfl)
   ·skip
    refine cm_exit ?_
    refine xm_thenE ?_
    refine xm_lexit ?_
    refine xm_here ?_
    exact xm_lnext () (sc (by kernel_rfl) rfl (sc (by kernel_rfl) rfl (sc (by kernel_rfl) rfl sub_nil))) (hsub [] (by kernel_rfl) rfl)
  intro s129 u130
  refine cq ?_
  refine cq ?_
  refine cr ?_
  refine lv 55 (by kernel_rfl) (fun w1 c1 => (om (v := .bool _) rfl)) ?_
  refine lv 56 (by kernel_rfl) (fun w1 c1 => (op_not rfl)) ?_
  refine ln ?_
  refine xn ?_
  refine cm_condB (by kernel_rfl) rfl (fun h251 => ?_) (fun h251 => ?_)
  ·skip
   refine cq ?_
   refine cr ?_
   refine lv 4 (by kernel_rfl) (fun w1 c1 => (oa (v := .int .i64 _) rfl)) ?_
   refine lv 5 (by kernel_rfl) (fun w1 c1 => (oa (v := .int .i64 _) rfl)) ?_
   refine ln ?_
   refine xn ?_
   refine cm_ret ?_
   refine xm_thenR ?_
   exact xm_retTT rfl (by kernel_rfl) (show _ = Value.int .i64 _ from rfl) (by kernel_rfl) (show _ = Value.int .i64 _ from rfl) fun w1 c1 => ⟨(), rfl, hsub [] (by kernel_rfl) rfl w1 c1⟩
  ·skip
   refine cm_skip ?_
   refine xn ?_
   refine cq ?_
   refine cr ?_
   refine lv 57 (by kernel_rfl) (fun w1 c1 => (om (v := .int .i64 _) rfl)) ?_
   refine lv 58 (by kernel_rfl) (fun w1 c1 => (om (v := .int .i64 _) rfl)) ?_
   refine lm_ck (fun h252 => ?_)
   refine lv 59 (by kernel_rfl) (fun w1 c1 => (op_sub rfl rfl h252)) ?_
   refine lv 4 (by kernel_rfl) (fun w1 c1 => (oa (v := .int .i64 _) rfl)) ?_
   refine lv 5 (by kernel_rfl) (fun w1 c1 => (oa (v := .int .i64 _) rfl)) ?_
   refine ln ?_
   refine xn ?_
   refine cm_ret ?_
   exact xm_retTT rfl (by kernel_rfl) (show _ = Value.int .i64 _ from rfl) (by kernel_rfl) (show _ = Value.int .i64 _ from rfl) fun w1 c1 => ⟨(), rfl, hsub [] (by kernel_rfl) rfl w1 c1⟩
end Go.Proofs.YtljogldcejcikaaGreat
