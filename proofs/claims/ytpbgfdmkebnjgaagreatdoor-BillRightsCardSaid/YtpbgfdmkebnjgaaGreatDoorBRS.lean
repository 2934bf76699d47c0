/- Models of functions, and that the code follows them. Written by deco.py. -/
import Derived.Test.YtpbgfdmkebnjgaaGreatDoorBAwake
namespace Go.Proofs.YtpbgfdmkebnjgaaGreatDoor
open Go.RowKit
set_option linter.unusedSectionVars false
variable [JF]

/-- recyclingref54.Same -/
def m_recyclingref54_Same (N : Nat) (p0 : ApiBill) (p1 : ApiBill) : Option (Bool) :=
 callIf (((((decide (p0.ID = p1.ID)) && (decide (p0.Household = p1.Household))) && (decide (p0.When = p1.When))) && (decide (p0.Total = p1.Total))) = true) (m_recyclingref53_Same N p0.Items p1.Items) fun r7 => some ((((((decide (p0.ID = p1.ID)) && (decide (p0.Household = p1.Household))) && (decide (p0.When = p1.When))) && (decide (p0.Total = p1.Total))) && r7))
set_option maxHeartbeats 2000000 in
set_option maxRecDepth 20000 in
theorem m_recyclingref54_Same_ok (N : Nat) (w0 : World) (p0 : ApiBill) (p1 : ApiBill) (A_p01 : Option Addr) (n_p01 c_p01 : Nat) (A_p11 : Option Addr) (n_p11 c_p11 : Nat) (hr_p01 : RdE w0 5 encApiItem A_p01 p0.Items) (hz_p01 : SW A_p01 n_p01 c_p01 (List.length p0.Items)) (hr_p11 : RdE w0 5 encApiItem A_p11 p1.Items) (hz_p11 : SW A_p11 n_p11 c_p11 (List.length p1.Items)) (r : Bool) (hr : m_recyclingref54_Same N p0 p1 = some r) :
  Ret Tryz.prog 18 [.agg #[.int .i64 p0.ID, .int .i64 p0.Household, .int .i64 p0.When.From, .int .i64 p0.When.To, .slice A_p01 n_p01 c_p01, .int .i64 p0.Total], .agg #[.int .i64 p1.ID, .int .i64 p1.Household, .int .i64 p1.When.From, .int .i64 p1.When.To, .slice A_p11 n_p11 c_p11, .int .i64 p1.Total]] w0 (fun (r : Bool) (_u : Unit) => .bool r) (fun (_r : Bool) (_u : Unit) => []) r := by
 refine calls_v (n := 38) r hr Tryz.func18 ?_
 unfold m_recyclingref54_Same
 refine sr ?_
 refine lm_box 2 [.int .i64 _, .int .i64 _, .int .i64 _, .int .i64 _, .slice _ _ _, .int .i64 _] (by kernel_rfl) rfl ?_
 intro b5
 refine lm_box 3 [.int .i64 _, .int .i64 _, .int .i64 _, .int .i64 _, .slice _ _ _, .int .i64 _] (by kernel_rfl) rfl ?_
 intro b6
 refine la 1 ((4, .bool false) :: _) rfl ?_
 refine nn ?_
 refine cm_seq ?_
 refine cm_callIf fun r7 h8 => ?_
 refine cm_cutE [(4, .bool (((((decide (p0.ID = p1.ID)) && (decide (p0.Household = p1.Household))) && (decide (p0.When = p1.When))) && (decide (p0.Total = p1.Total))) && r7))] ?_ ?_
 ·refine q_ 5 (fun _ _ => oF 0 0 rfl) ?_
  refine q_ 6 (fun _ c1 => oL (c1.cell 1 (u := .int .i64 _) rfl rfl)) ?_
  refine q_ 7 (fun _ _ => oF 0 0 rfl) ?_
  refine q_ 8 (fun _ c1 => oL (c1.cell 0 (u := .int .i64 _) rfl rfl)) ?_
  refine qd 9 (fun _ _ => op_eql rfl rfl) (fun h9 => ?_) (fun h9 => ?_)
  ·refine qa 1 ((10, .bool true) :: _) rfl ?_
   refine q_ 11 (fun _ _ => oF 1 1 rfl) ?_
   refine q_ 12 (fun _ c1 => oL (c1.cell 1 (u := .int .i64 _) rfl rfl)) ?_
   refine q_ 13 (fun _ _ => oF 1 1 rfl) ?_
   refine q_ 14 (fun _ c1 => oL (c1.cell 0 (u := .int .i64 _) rfl rfl)) ?_
   refine qd 15 (fun _ _ => op_eql rfl rfl) (fun h10 => ?_) (fun h10 => ?_)
   ·refine qa 2 ((17, .bool true) :: (16, .bool true) :: _) rfl ?_
    refine q_ 18 (fun _ _ => oF 2 2 rfl) ?_
    refine q_ 19 (fun _ c1 => oR [.int .i64 _, .int .i64 _] (c1.cells 1 rfl rfl)) ?_
    refine q_ 20 (fun _ _ => oF 2 2 rfl) ?_
    refine q_ 21 (fun _ c1 => oR [.int .i64 _, .int .i64 _] (c1.cells 0 rfl rfl)) ?_
    refine qd 22 (fun _ _ => op_eqApiWindow p0.When p1.When rfl rfl) (fun h11 => ?_) (fun h11 => ?_)
    ·refine qa 2 ((24, .bool true) :: (23, .bool true) :: _) rfl ?_
     refine q_ 25 (fun _ _ => oF 5 5 rfl) ?_
     refine q_ 26 (fun _ c1 => oL (c1.cell 1 (u := .int .i64 _) rfl rfl)) ?_
     refine q_ 27 (fun _ _ => oF 5 5 rfl) ?_
     refine q_ 28 (fun _ c1 => oL (c1.cell 0 (u := .int .i64 _) rfl rfl)) ?_
     refine qd 29 (fun _ _ => op_eql rfl rfl) (fun h12 => ?_) (fun h12 => ?_)
     ·refine qa 2 ((31, .bool true) :: (30, .bool true) :: _) rfl ?_
      refine q_ 32 (fun _ _ => oF 4 4 rfl) ?_
      refine q_ 33 (fun _ c1 => oL (c1.cell 1 (u := .slice _ _ _) rfl rfl)) ?_
      refine q_ 34 (fun _ _ => oF 4 4 rfl) ?_
      refine q_ 35 (fun _ c1 => oL (c1.cell 0 (u := .slice _ _ _) rfl rfl)) ?_
      refine wq_call 36 (by kernel_rfl) (fun w1 c1 => op_call (by kernel_rfl)) (fun w1 c1 => (m_recyclingref53_Same_ok N w1 p0.Items p1.Items A_p01 n_p01 c_p01 A_p11 n_p11 c_p11 (hr_p01.old c1) hz_p01 (hr_p11.old c1) hz_p11 r7 (h8 (by rw [decide_eq_true h9, decide_eq_true h10, decide_eq_true h11, decide_eq_true h12] <;> rfl))).mono (fun _ _ ⟨_, hx, hu⟩ => ⟨hx, c1.call hu⟩)) ?_
      refine qa 2 ((4, .bool _) :: (37, .bool _) :: _) rfl ?_
      exact leaf_q (sub_out 34 _ rfl (by kernel_rfl) ⟨(congrArg Value.bool (by rw [decide_eq_true h9, decide_eq_true h10, decide_eq_true h11, decide_eq_true h12] <;> rfl)), trivial⟩)
     ·refine qa 9 ((4, .bool false) :: (37, .bool false) :: (36, undef) :: (35, undef) :: (34, undef) :: (33, undef) :: (32, undef) :: (31, .bool false) :: (30, .bool false) :: _) rfl ?_
      exact leaf_q (sub_out 34 _ rfl (by kernel_rfl) ⟨(congrArg Value.bool (by rw [decide_eq_true h9, decide_eq_true h10, decide_eq_true h11, decide_eq_false h12] <;> rfl)), trivial⟩)
    ·refine qa 16 ((4, .bool false) :: (37, .bool false) :: (36, undef) :: (35, undef) :: (34, undef) :: (33, undef) :: (32, undef) :: (31, .bool false) :: (30, .bool false) :: (29, undef) :: (28, undef) :: (27, undef) :: (26, undef) :: (25, undef) :: (24, .bool false) :: (23, .bool false) :: _) rfl ?_
     exact leaf_q (sub_out 34 _ rfl (by kernel_rfl) ⟨(congrArg Value.bool (by rw [decide_eq_true h9, decide_eq_true h10, decide_eq_false h11] <;> rfl)), trivial⟩)
   ·refine qa 23 ((4, .bool false) :: (37, .bool false) :: (36, undef) :: (35, undef) :: (34, undef) :: (33, undef) :: (32, undef) :: (31, .bool false) :: (30, .bool false) :: (29, undef) :: (28, undef) :: (27, undef) :: (26, undef) :: (25, undef) :: (24, .bool false) :: (23, .bool false) :: (22, undef) :: (21, undef) :: (20, undef) :: (19, undef) :: (18, undef) :: (17, .bool false) :: (16, .bool false) :: _) rfl ?_
    exact leaf_q (sub_out 34 _ rfl (by kernel_rfl) ⟨(congrArg Value.bool (by rw [decide_eq_true h9, decide_eq_false h10] <;> rfl)), trivial⟩)
  ·refine qa 29 ((4, .bool false) :: (37, .bool false) :: (36, undef) :: (35, undef) :: (34, undef) :: (33, undef) :: (32, undef) :: (31, .bool false) :: (30, .bool false) :: (29, undef) :: (28, undef) :: (27, undef) :: (26, undef) :: (25, undef) :: (24, .bool false) :: (23, .bool false) :: (22, undef) :: (21, undef) :: (20, undef) :: (19, undef) :: (18, undef) :: (17, .bool false) :: (16, .bool false) :: (15, undef) :: (14, undef) :: (13, undef) :: (12, undef) :: (11, undef) :: (10, .bool false) :: _) rfl ?_
   exact leaf_q (sub_out 34 _ rfl (by kernel_rfl) ⟨(congrArg Value.bool (by rw [decide_eq_false h9] <;> rfl)), trivial⟩)
 refine xm_next ?_
 refine cm_ret ?_
 exact xm_retT rfl (by kernel_rfl) (show _ = Value.bool _ from rfl) fun w1 c1 => ⟨(), rfl, hsub [] (by kernel_rfl) rfl w1 c1⟩
end Go.Proofs.YtpbgfdmkebnjgaaGreatDoor
