/- Models of functions, and that the code follows them. Written by deco.py. -/
import Derived.Test.YtpbgfdmkebnjgaaGreatDoorBGr
namespace Go.Proofs.YtpbgfdmkebnjgaaGreatDoor
open Go.RowKit
set_option linter.unusedSectionVars false
variable [JF]

/-- recyclingref18.fault -/
def m_recyclingref18_fault (_N : Nat) (p0 : ApiEmptying) (p1 : Int) (p2 : Int) : Option (Int) :=
 (if ((decide (p0.ID < 1)) || (decide (1000000 < p0.ID))) = true then
  some ((1 : Int))
 else
  (if ((decide (p0.Container < 0)) || (decide (p1 ≤ p0.Container))) = true then
   some ((7 : Int))
  else
   (if ((decide (p0.Vehicle < 0)) || (decide (p2 ≤ p0.Vehicle))) = true then
    some ((7 : Int))
   else
    (if ((decide (p0.At < 0)) || (decide (3155759999 < p0.At))) = true then
     some ((1 : Int))
    else
     (if (((decide (p0.Mass.Lo < 0)) || (decide (p0.Mass.Hi < p0.Mass.Lo))) || (decide (1073741824 < p0.Mass.Hi))) = true then
      some ((1 : Int))
     else
      some ((0 : Int)))))))
set_option maxHeartbeats 2000000 in
set_option maxRecDepth 20000 in
theorem m_recyclingref18_fault_ok (N : Nat) (w0 : World) (p0 : ApiEmptying) (p1 : Int) (p2 : Int)   (r : Int) (hr : m_recyclingref18_fault N p0 p1 p2 = some r) :
  Ret Tryz.prog 83 [.agg #[.int .i64 p0.ID, .int .i64 p0.Container, .int .i64 p0.Vehicle, .int .i64 p0.At, .int .i64 p0.Mass.Lo, .int .i64 p0.Mass.Hi, .bool p0.Void], .int .i64 p1, .int .i64 p2] w0 (fun (r : Int) (_u : Unit) => .int .i64 r) (fun (_r : Int) (_u : Unit) => []) r := by
 refine calls_v (n := 60) r hr Tryz.func83 ?_
 unfold m_recyclingref18_fault
 refine sr ?_
 refine lm_box 3 [.int .i64 _, .int .i64 _, .int .i64 _, .int .i64 _, .int .i64 _, .int .i64 _, .bool _] (by kernel_rfl) rfl ?_
 intro b5
 refine la 1 ((6, .int .i64 _) :: _) rfl ?_
 refine nn ?_
 refine cm_seq ?_
 refine cm_seq ?_
 refine cm_cutE [(14, .bool ((decide (p0.ID < 1)) || (decide (1000000 < p0.ID))))] ?_ ?_
 ·refine q_ 7 (fun _ _ => oF 0 0 rfl) ?_
  refine q_ 8 (fun _ c1 => oL (c1.cell 0 (u := .int .i64 _) rfl rfl)) ?_
  refine qd 9 (fun _ _ => op_lss rfl rfl) (fun h6 => ?_) (fun h6 => ?_)
  ·refine qa 5 ((14, .bool true) :: (13, undef) :: (12, undef) :: (11, undef) :: (10, .bool true) :: _) rfl ?_
   exact leaf_q (sub_out 8 _ rfl (by kernel_rfl) ⟨(congrArg Value.bool (by rw [decide_eq_true h6] <;> rfl)), trivial⟩)
  ·refine qa 1 ((10, .bool false) :: _) rfl ?_
   refine q_ 11 (fun _ _ => oF 0 0 rfl) ?_
   refine q_ 12 (fun _ c1 => oL (c1.cell 0 (u := .int .i64 _) rfl rfl)) ?_
   refine qa 2 ((14, .bool _) :: (13, .bool _) :: _) rfl ?_
   exact leaf_q (sub_out 8 _ rfl (by kernel_rfl) ⟨(congrArg Value.bool (by rw [decide_eq_false h6] <;> rfl)), trivial⟩)
 refine xm_next ?_
 refine cm_condB (by kernel_rfl) rfl (fun h7 => ?_) (fun h7 => ?_)
 ·refine sr ?_
  refine la 1 ((6, .int .i64 _) :: _) rfl ?_
  refine nn ?_
  refine cm_ret ?_
  refine xm_thenR ?_
  exact xm_retT rfl (by kernel_rfl) (show _ = Value.int .i64 _ from rfl) fun w1 c1 => ⟨(), rfl, hsub [] (by kernel_rfl) rfl w1 c1⟩
 ·refine sk ?_
  refine cm_seq ?_
  refine cm_seq ?_
  refine cm_cutE [(23, .bool ((decide (p0.Container < 0)) || (decide (p1 ≤ p0.Container))))] ?_ ?_
  ·refine q_ 15 (fun _ _ => oF 1 1 rfl) ?_
   refine q_ 16 (fun _ c1 => oL (c1.cell 0 (u := .int .i64 _) rfl rfl)) ?_
   refine qd 17 (fun _ _ => op_lss rfl rfl) (fun h8 => ?_) (fun h8 => ?_)
   ·refine qa 6 ((23, .bool true) :: (22, undef) :: (21, undef) :: (20, undef) :: (19, undef) :: (18, .bool true) :: _) rfl ?_
    exact leaf_q (sub_out 9 _ rfl (by kernel_rfl) ⟨(congrArg Value.bool (by rw [decide_eq_true h8] <;> rfl)), trivial⟩)
   ·refine qa 1 ((18, .bool false) :: _) rfl ?_
    refine q_ 19 (fun _ _ => oF 1 1 rfl) ?_
    refine q_ 20 (fun _ c1 => oL (c1.cell 0 (u := .int .i64 _) rfl rfl)) ?_
    refine qa 3 ((23, .bool _) :: (22, .bool _) :: (21, .int .i64 _) :: _) rfl ?_
    exact leaf_q (sub_out 9 _ rfl (by kernel_rfl) ⟨(congrArg Value.bool (by rw [decide_eq_false h8] <;> rfl)), trivial⟩)
  refine xm_next ?_
  refine cm_condB (by kernel_rfl) rfl (fun h9 => ?_) (fun h9 => ?_)
  ·refine sr ?_
   refine la 1 ((6, .int .i64 _) :: _) rfl ?_
   refine nn ?_
   refine cm_ret ?_
   refine xm_thenR ?_
   exact xm_retT rfl (by kernel_rfl) (show _ = Value.int .i64 _ from rfl) fun w1 c1 => ⟨(), rfl, hsub [] (by kernel_rfl) rfl w1 c1⟩
  ·refine sk ?_
   refine cm_seq ?_
   refine cm_seq ?_
   refine cm_cutE [(32, .bool ((decide (p0.Vehicle < 0)) || (decide (p2 ≤ p0.Vehicle))))] ?_ ?_
   ·refine q_ 24 (fun _ _ => oF 2 2 rfl) ?_
    refine q_ 25 (fun _ c1 => oL (c1.cell 0 (u := .int .i64 _) rfl rfl)) ?_
    refine qd 26 (fun _ _ => op_lss rfl rfl) (fun h10 => ?_) (fun h10 => ?_)
    ·refine qa 6 ((32, .bool true) :: (31, undef) :: (30, undef) :: (29, undef) :: (28, undef) :: (27, .bool true) :: _) rfl ?_
     exact leaf_q (sub_out 9 _ rfl (by kernel_rfl) ⟨(congrArg Value.bool (by rw [decide_eq_true h10] <;> rfl)), trivial⟩)
    ·refine qa 1 ((27, .bool false) :: _) rfl ?_
     refine q_ 28 (fun _ _ => oF 2 2 rfl) ?_
     refine q_ 29 (fun _ c1 => oL (c1.cell 0 (u := .int .i64 _) rfl rfl)) ?_
     refine qa 3 ((32, .bool _) :: (31, .bool _) :: (30, .int .i64 _) :: _) rfl ?_
     exact leaf_q (sub_out 9 _ rfl (by kernel_rfl) ⟨(congrArg Value.bool (by rw [decide_eq_false h10] <;> rfl)), trivial⟩)
   refine xm_next ?_
   refine cm_condB (by kernel_rfl) rfl (fun h11 => ?_) (fun h11 => ?_)
   ·refine sr ?_
    refine la 1 ((6, .int .i64 _) :: _) rfl ?_
    refine nn ?_
    refine cm_ret ?_
    refine xm_thenR ?_
    exact xm_retT rfl (by kernel_rfl) (show _ = Value.int .i64 _ from rfl) fun w1 c1 => ⟨(), rfl, hsub [] (by kernel_rfl) rfl w1 c1⟩
   ·refine sk ?_
    refine cm_seq ?_
    refine cm_seq ?_
    refine cm_cutE [(40, .bool ((decide (p0.At < 0)) || (decide (3155759999 < p0.At))))] ?_ ?_
    ·refine q_ 33 (fun _ _ => oF 3 3 rfl) ?_
     refine q_ 34 (fun _ c1 => oL (c1.cell 0 (u := .int .i64 _) rfl rfl)) ?_
     refine qd 35 (fun _ _ => op_lss rfl rfl) (fun h12 => ?_) (fun h12 => ?_)
     ·refine qa 5 ((40, .bool true) :: (39, undef) :: (38, undef) :: (37, undef) :: (36, .bool true) :: _) rfl ?_
      exact leaf_q (sub_out 8 _ rfl (by kernel_rfl) ⟨(congrArg Value.bool (by rw [decide_eq_true h12] <;> rfl)), trivial⟩)
     ·refine qa 1 ((36, .bool false) :: _) rfl ?_
      refine q_ 37 (fun _ _ => oF 3 3 rfl) ?_
      refine q_ 38 (fun _ c1 => oL (c1.cell 0 (u := .int .i64 _) rfl rfl)) ?_
      refine qa 2 ((40, .bool _) :: (39, .bool _) :: _) rfl ?_
      exact leaf_q (sub_out 8 _ rfl (by kernel_rfl) ⟨(congrArg Value.bool (by rw [decide_eq_false h12] <;> rfl)), trivial⟩)
    refine xm_next ?_
    refine cm_condB (by kernel_rfl) rfl (fun h13 => ?_) (fun h13 => ?_)
    ·refine sr ?_
     refine la 1 ((6, .int .i64 _) :: _) rfl ?_
     refine nn ?_
     refine cm_ret ?_
     refine xm_thenR ?_
     exact xm_retT rfl (by kernel_rfl) (show _ = Value.int .i64 _ from rfl) fun w1 c1 => ⟨(), rfl, hsub [] (by kernel_rfl) rfl w1 c1⟩
    ·refine sk ?_
     refine cm_seq ?_
     refine cm_seq ?_
     refine cm_cutE [(59, .bool (((decide (p0.Mass.Lo < 0)) || (decide (p0.Mass.Hi < p0.Mass.Lo))) || (decide (1073741824 < p0.Mass.Hi))))] ?_ ?_
     ·refine q_ 41 (fun _ _ => oF 4 4 rfl) ?_
      refine q_ 42 (fun _ _ => oF 0 4 rfl) ?_
      refine q_ 43 (fun _ c1 => oL (c1.cell 0 (u := .int .i64 _) rfl rfl)) ?_
      refine qd 44 (fun _ _ => op_lss rfl rfl) (fun h14 => ?_) (fun h14 => ?_)
      ·refine qa 15 ((59, .bool true) :: (58, undef) :: (57, undef) :: (56, undef) :: (55, undef) :: (54, .bool true) :: (53, .bool true) :: (52, undef) :: (51, undef) :: (50, undef) :: (49, undef) :: (48, undef) :: (47, undef) :: (46, undef) :: (45, .bool true) :: _) rfl ?_
       exact leaf_q (sub_out 19 _ rfl (by kernel_rfl) ⟨(congrArg Value.bool (by rw [decide_eq_true h14] <;> rfl)), trivial⟩)
      ·refine qa 1 ((45, .bool false) :: _) rfl ?_
       refine q_ 46 (fun _ _ => oF 4 4 rfl) ?_
       refine q_ 47 (fun _ _ => oF 0 4 rfl) ?_
       refine q_ 48 (fun _ c1 => oL (c1.cell 0 (u := .int .i64 _) rfl rfl)) ?_
       refine q_ 49 (fun _ _ => oF 4 4 rfl) ?_
       refine q_ 50 (fun _ _ => oF 1 5 rfl) ?_
       refine q_ 51 (fun _ c1 => oL (c1.cell 0 (u := .int .i64 _) rfl rfl)) ?_
       refine qd 52 (fun _ _ => op_gtr rfl rfl) (fun h15 => ?_) (fun h15 => ?_)
       ·refine qa 7 ((59, .bool true) :: (58, undef) :: (57, undef) :: (56, undef) :: (55, undef) :: (54, .bool true) :: (53, .bool true) :: _) rfl ?_
        exact leaf_q (sub_out 19 _ rfl (by kernel_rfl) ⟨(congrArg Value.bool (by rw [decide_eq_false h14, decide_eq_true h15] <;> rfl)), trivial⟩)
       ·refine qa 2 ((54, .bool false) :: (53, .bool false) :: _) rfl ?_
        refine q_ 55 (fun _ _ => oF 4 4 rfl) ?_
        refine q_ 56 (fun _ _ => oF 1 5 rfl) ?_
        refine q_ 57 (fun _ c1 => oL (c1.cell 0 (u := .int .i64 _) rfl rfl)) ?_
        refine qa 2 ((59, .bool _) :: (58, .bool _) :: _) rfl ?_
        exact leaf_q (sub_out 19 _ rfl (by kernel_rfl) ⟨(congrArg Value.bool (by rw [decide_eq_false h14, decide_eq_false h15] <;> rfl)), trivial⟩)
     refine xm_next ?_
     refine cm_condB (by kernel_rfl) rfl (fun h16 => ?_) (fun h16 => ?_)
     ·refine sr ?_
      refine la 1 ((6, .int .i64 _) :: _) rfl ?_
      refine nn ?_
      refine cm_ret ?_
      refine xm_thenR ?_
      exact xm_retT rfl (by kernel_rfl) (show _ = Value.int .i64 _ from rfl) fun w1 c1 => ⟨(), rfl, hsub [] (by kernel_rfl) rfl w1 c1⟩
     ·refine sk ?_
      refine sr ?_
      refine la 1 ((6, .int .i64 _) :: _) rfl ?_
      refine nn ?_
      refine cm_ret ?_
      exact xm_retT rfl (by kernel_rfl) (show _ = Value.int .i64 _ from rfl) fun w1 c1 => ⟨(), rfl, hsub [] (by kernel_rfl) rfl w1 c1⟩
/-- recyclingref18.Check -/
def m_recyclingref18_Check (N : Nat) (p0 : (List ApiEmptying)) (p1 : Int) (p2 : Int) : Option (Int) :=
 (if 512 < (List.length p0 : Int) then
  some ((8 : Int))
 else
  (andThen
   (loopM (fun (s48 : Int) =>
    (if s48 < (List.length p0 : Int) then
     ck ((0 : Int) ≤ s48 ∧ s48 < (List.length p0 : Int)) (
      Option.bind (m_recyclingref18_fault N (ix p0 s48) p1 p2) fun r52 => (if r52 ≠ 0 then
       some (.done (.done (r52)))
      else
       ck (I64 (s48 + (1 : Int))) (
        some (.next (s48 + (1 : Int))))))
    else
     some (.done (.next ())))) N (0 : Int))
  fun (_s30 : Unit) =>
   (andThen
    (loopM (fun (s298 : Int) =>
     (if s298 < (List.length p0 : Int) then
      (andThen
       (loopM (fun (s338 : Int) =>
        (if s338 < s298 then
         ck ((0 : Int) ≤ s298 ∧ s298 < (List.length p0 : Int)) (
          ck ((0 : Int) ≤ s338 ∧ s338 < (List.length p0 : Int)) (
           (if (ix p0 s298).ID = (ix p0 s338).ID then
            some (.done (.done (.done (.done ((6 : Int))))))
           else
            ck (I64 (s338 + (1 : Int))) (
             some (.next (s338 + (1 : Int)))))))
        else
         some (.done (.next ())))) N (0 : Int))
      fun (_s322 : Unit) =>
       ck (I64 (s298 + (1 : Int))) (
        some (.next (s298 + (1 : Int)))))
     else
      some (.done (.next ())))) N (0 : Int))
   fun (_s200 : Unit) =>
    some ((0 : Int)))))
set_option maxHeartbeats 2000000 in
set_option maxRecDepth 20000 in
theorem m_recyclingref18_Check_ok (N : Nat) (w0 : World) (p0 : (List ApiEmptying)) (p1 : Int) (p2 : Int) (A_p0 : Option Addr) (n_p0 c_p0 : Nat) (hr_p0 : RdE w0 7 encApiEmptying A_p0 p0) (hz_p0 : SW A_p0 n_p0 c_p0 (List.length p0)) (r : Int) (hr : m_recyclingref18_Check N p0 p1 p2 = some r) :
  Ret Tryz.prog 39 [.slice A_p0 n_p0 c_p0, .int .i64 p1, .int .i64 p2] w0 (fun (r : Int) (_u : Unit) => .int .i64 r) (fun (_r : Int) (_u : Unit) => []) r := by
 refine calls_v (n := 52) r hr Tryz.func39 ?_
 unfold m_recyclingref18_Check
 refine sr ?_
 refine la 1 ((6, .int .i64 _) :: _) rfl ?_
 refine nn ?_
 refine cm_seq ?_
 refine sr ?_
 refine la 1 ((11, .slice _ _ _) :: _) rfl ?_
 refine v_ 12 (fun _ _ => op_lenN rfl (by kernel_rfl) hz_p0.2.2) ?_
 refine la 1 ((13, .bool _) :: _) rfl ?_
 refine nn ?_
 refine cm_cond (by kernel_rfl) rfl (fun h5 => ?_) (fun h5 => ?_)
 ·refine sr ?_
  refine la 1 ((6, .int .i64 _) :: _) rfl ?_
  refine nn ?_
  refine cm_ret ?_
  refine xm_thenR ?_
  exact xm_retT rfl (by kernel_rfl) (show _ = Value.int .i64 _ from rfl) fun w1 c1 => ⟨(), rfl, hsub [] (by kernel_rfl) rfl w1 c1⟩
 ·refine sk ?_
  refine cm_join (σ := Unit) (ξ := Unit) (fun s30 u31 => [(0, .slice A_p0 n_p0 c_p0)]) (fun s30 u31 => []) ?_ ?_
  ·refine sr ?_
   refine la 1 ((7, .int .i64 _) :: _) rfl ?_
   refine nn ?_
   refine cm_block ?_
   refine cm_loop (σ := Int) (ξ := Unit) (fun s48 u49 => [(0, .slice A_p0 n_p0 c_p0), (1, .int .i64 p1), (2, .int .i64 p2), (7, .int .i64 s48)]) (fun s48 u49 => []) () ?_ ?_ ?_
   ·exact sq
   ·exact sh []
   intro s48 u49
   refine cm_seq ?_
   refine sr ?_
   refine la 2 ((15, .slice _ _ _) :: (14, .int .i64 _) :: _) rfl ?_
   refine v_ 16 (fun _ _ => op_lenN rfl (by kernel_rfl) hz_p0.2.2) ?_
   refine la 1 ((17, .bool _) :: _) rfl ?_
   refine nn ?_
   refine cm_cond (by kernel_rfl) rfl (fun h50 => ?_) (fun h50 => ?_)
   ·refine sk ?_
    refine cm_seq ?_
    refine cm_block ?_
    refine sr ?_
    refine la 2 ((21, .int .i64 _) :: (20, .slice _ _ _) :: _) rfl ?_
    refine lm_ck (fun h51 => ?_)
    refine v_ 22 (fun _ c1 => oI 7 rfl rfl ((hr_p0.old c1).addr h51.1 h51.2) hz_p0.2.2 h51) ?_
    refine v_ 23 (fun _ c1 => oR [.int .i64 ((ix p0 s48).ID), .int .i64 ((ix p0 s48).Container), .int .i64 ((ix p0 s48).Vehicle), .int .i64 ((ix p0 s48).At), .int .i64 ((ix p0 s48).Mass.Lo), .int .i64 ((ix p0 s48).Mass.Hi), .bool ((ix p0 s48).Void)] ((hr_p0.old c1).row h51.1 h51.2)) ?_
    refine la 2 ((25, .int .i64 _) :: (24, .int .i64 _) :: _) rfl ?_
    refine lm_call 26 (V := (fun (r : Int) (_u : Unit) => .int .i64 r)) (HR := (fun (_r : Int) (_u : Unit) => [])) (by kernel_rfl) (fun w1 => op_call (by kernel_rfl)) (fun r1 hr1 w1 c1 => m_recyclingref18_fault_ok N w1 (ix p0 s48) p1 p2  r1 hr1) ?_
    intro r52 u53
    refine la 1 ((8, .int .i64 _) :: _) rfl ?_
    refine nn ?_
    refine sr ?_
    refine la 2 ((28, .bool _) :: (27, .int .i64 _) :: _) rfl ?_
    refine nn ?_
    refine cm_cond (by kernel_rfl) rfl (fun h54 => ?_) (fun h54 => ?_)
    ·refine sr ?_
     refine la 2 ((6, .int .i64 _) :: (29, .int .i64 _) :: _) rfl ?_
     refine nn ?_
     refine cm_ret ?_
     refine xm_inR ?_
     refine xm_thenR ?_
     refine xm_lret ?_
     refine xm_inR ?_
     refine xm_lret ?_
     exact xm_retT rfl (by kernel_rfl) (show _ = Value.int .i64 _ from rfl) fun w1 c1 => ⟨(), rfl, hsub [] (by kernel_rfl) rfl w1 c1⟩
    ·refine cm_skip ?_
     refine xm_inN ?_
     refine xm_next ?_
     refine cm_region ?_
     refine la 1 ((18, .int .i64 _) :: _) rfl ?_
     refine lm_ck (fun h55 => ?_)
     refine v_ 19 (fun _ _ => op_add rfl rfl h55) ?_
     refine la 1 ((7, .int .i64 _) :: _) rfl ?_
     refine lm_nil ?_
     exact xm_lnext () sq (sh [])
   ·refine cm_exit ?_
    refine xm_thenE ?_
    refine xm_lexit ?_
    refine xm_here ?_
    exact xm_lnext () sq (sh [])
  intro s30 u31
  refine cm_join (σ := Unit) (ξ := Unit) (fun s200 u201 => []) (fun s200 u201 => []) ?_ ?_
  ·refine sr ?_
   refine la 1 ((9, .int .i64 _) :: _) rfl ?_
   refine nn ?_
   refine cm_block ?_
   refine cm_loop (σ := Int) (ξ := Unit) (fun s298 u299 => [(0, .slice A_p0 n_p0 c_p0), (9, .int .i64 s298)]) (fun s298 u299 => []) () ?_ ?_ ?_
   ·exact sq
   ·exact sh []
   intro s298 u299
   refine cm_seq ?_
   refine sr ?_
   refine la 2 ((31, .slice _ _ _) :: (30, .int .i64 _) :: _) rfl ?_
   refine v_ 32 (fun _ _ => op_lenN rfl (by kernel_rfl) hz_p0.2.2) ?_
   refine la 1 ((33, .bool _) :: _) rfl ?_
   refine nn ?_
   refine cm_cond (by kernel_rfl) rfl (fun h300 => ?_) (fun h300 => ?_)
   ·refine sk ?_
    refine cm_join (σ := Unit) (ξ := Unit) (fun s322 u323 => [(0, .slice A_p0 n_p0 c_p0), (9, .int .i64 s298)]) (fun s322 u323 => []) ?_ ?_
    ·refine cm_block ?_
     refine sr ?_
     refine la 1 ((10, .int .i64 _) :: _) rfl ?_
     refine nn ?_
     refine cm_block ?_
     refine cm_loop (σ := Int) (ξ := Unit) (fun s338 u339 => [(0, .slice A_p0 n_p0 c_p0), (9, .int .i64 s298), (10, .int .i64 s338)]) (fun s338 u339 => []) () ?_ ?_ ?_
     ·exact sq
     ·exact sh []
     intro s338 u339
     refine cm_seq ?_
     refine sr ?_
     refine la 3 ((38, .bool _) :: (37, .int .i64 _) :: (36, .int .i64 _) :: _) rfl ?_
     refine nn ?_
     refine cm_cond (by kernel_rfl) rfl (fun h340 => ?_) (fun h340 => ?_)
     ·refine sk ?_
      refine cm_seq ?_
      refine cm_block ?_
      refine cm_seq ?_
      refine cm_ck (fun h341 => ?_)
      refine cm_ck (fun h342 => ?_)
      refine cm_drawn [(51, .bool (decide ((ix p0 s298).ID = (ix p0 s338).ID)))] (by kernel_rfl) (by kernel_rfl) ?_ ?_
      ·refine qa 2 ((42, .int .i64 _) :: (41, .slice _ _ _) :: _) rfl ?_
       refine q_ 43 (fun _ c1 => oI 7 rfl rfl ((hr_p0.old c1).addr h341.1 h341.2) hz_p0.2.2 h341) ?_
       refine q_ 44 (fun _ _ => op_field0 rfl (by kernel_rfl)) ?_
       refine q_ 45 (fun _ c1 => oL (v := .int .i64 ((ix p0 s298).ID)) ((hr_p0.old c1).cell0 h341.1 h341.2 rfl)) ?_
       refine qa 2 ((47, .int .i64 _) :: (46, .slice _ _ _) :: _) rfl ?_
       refine q_ 48 (fun _ c1 => oI 7 rfl rfl ((hr_p0.old c1).addr h342.1 h342.2) hz_p0.2.2 h342) ?_
       refine q_ 49 (fun _ _ => op_field0 rfl (by kernel_rfl)) ?_
       refine q_ 50 (fun _ c1 => oL (v := .int .i64 ((ix p0 s338).ID)) ((hr_p0.old c1).cell0 h342.1 h342.2 rfl)) ?_
       refine qa 1 ((51, .bool _) :: _) rfl ?_
       exact lq 11
      refine xm_next ?_
      refine cm_cond (by kernel_rfl) rfl (fun h343 => ?_) (fun h343 => ?_)
      ·refine sr ?_
       refine la 1 ((6, .int .i64 _) :: _) rfl ?_
       refine nn ?_
       refine cm_ret ?_
       refine xm_inR ?_
       refine xm_thenR ?_
       refine xm_lret ?_
       refine xm_inR ?_
       refine xm_inR ?_
       refine xm_lret ?_
       refine xm_lret ?_
       refine xm_inR ?_
       refine xm_lret ?_
       exact xm_retT rfl (by kernel_rfl) (show _ = Value.int .i64 _ from rfl) fun w1 c1 => ⟨(), rfl, hsub [] (by kernel_rfl) rfl w1 c1⟩
      ·refine cm_skip ?_
       refine xm_inN ?_
       refine xm_next ?_
       refine cm_region ?_
       refine la 1 ((39, .int .i64 _) :: _) rfl ?_
       refine lm_ck (fun h344 => ?_)
       refine v_ 40 (fun _ _ => op_add rfl rfl h344) ?_
       refine la 1 ((10, .int .i64 _) :: _) rfl ?_
       refine lm_nil ?_
       exact xm_lnext () sq (sh [])
     ·refine cm_exit ?_
      refine xm_thenE ?_
      refine xm_lexit ?_
      refine xm_here ?_
      refine xm_inN ?_
      exact xm_lnext () sq (sh [])
    intro s322 u323
    refine cm_region ?_
    refine la 1 ((34, .int .i64 _) :: _) rfl ?_
    refine lm_ck (fun h345 => ?_)
    refine v_ 35 (fun _ _ => op_add rfl rfl h345) ?_
    refine la 1 ((9, .int .i64 _) :: _) rfl ?_
    refine lm_nil ?_
    exact xm_lnext () sq (sh [])
   ·refine cm_exit ?_
    refine xm_thenE ?_
    refine xm_lexit ?_
    refine xm_here ?_
    exact xm_lnext () sub_nil (sh [])
  intro s200 u201
  refine sr ?_
  refine la 1 ((6, .int .i64 _) :: _) rfl ?_
  refine nn ?_
  refine cm_ret ?_
  exact xm_retT rfl (by kernel_rfl) (show _ = Value.int .i64 _ from rfl) fun w1 c1 => ⟨(), rfl, hsub [] (by kernel_rfl) rfl w1 c1⟩
/-- recyclingref04.letter -/
def m_recyclingref04_letter (_N : Nat) (p0 : Int) : Option (Bool) :=
 some ((((decide (65 ≤ p0)) && (decide (p0 ≤ 90))) || ((decide (97 ≤ p0)) && (decide (p0 ≤ 122)))))
set_option maxRecDepth 20000 in
theorem m_recyclingref04_letter_ok (N : Nat) (w0 : World) (p0 : Int)   (r : Bool) (hr : m_recyclingref04_letter N p0 = some r) :
  Ret Tryz.prog 105 [.int .u8 p0] w0 (fun (r : Bool) (_u : Unit) => .bool r) (fun (_r : Bool) (_u : Unit) => []) r := by
 refine calls_v (n := 17) r hr Tryz.func105 ?_
 unfold m_recyclingref04_letter
 refine sr ?_
 refine la 1 ((2, .bool false) :: _) rfl ?_
 refine nn ?_
 refine cm_seq ?_
 refine cm_cutE [(2, .bool (((decide (65 ≤ p0)) && (decide (p0 ≤ 90))) || ((decide (97 ≤ p0)) && (decide (p0 ≤ 122)))))] ?_ ?_
 ·refine qa 1 ((3, .int .u8 _) :: _) rfl ?_
  refine qd 4 (fun _ _ => op_geqK rfl rfl) (fun h5 => ?_) (fun h5 => ?_)
  ·refine qa 2 ((6, .int .u8 _) :: (5, .bool true) :: _) rfl ?_
   refine qd 7 (fun _ _ => op_leqK rfl rfl) (fun h6 => ?_) (fun h6 => ?_)
   ·refine qa 10 ((2, .bool true) :: (16, .bool true) :: (15, undef) :: (14, undef) :: (13, undef) :: (12, undef) :: (11, undef) :: (10, undef) :: (9, .bool true) :: (8, .bool true) :: _) rfl ?_
    exact leaf_q (sub_out 15 _ rfl (by kernel_rfl) ⟨(congrArg Value.bool (by rw [decide_eq_true h5, decide_eq_true h6] <;> rfl)), trivial⟩)
   ·refine qa 3 ((10, .int .u8 _) :: (9, .bool false) :: (8, .bool false) :: _) rfl ?_
    refine qd 11 (fun _ _ => op_geqK rfl rfl) (fun h7 => ?_) (fun h7 => ?_)
    ·refine qa 2 ((13, .int .u8 _) :: (12, .bool true) :: _) rfl ?_
     refine q_ 14 (fun _ _ => op_leqK rfl rfl) ?_
     refine qa 3 ((2, .bool _) :: (16, .bool _) :: (15, .bool _) :: _) rfl ?_
     exact leaf_q (sub_out 15 _ rfl (by kernel_rfl) ⟨(congrArg Value.bool (by rw [decide_eq_true h5, decide_eq_false h6, decide_eq_true h7] <;> rfl)), trivial⟩)
    ·refine qa 6 ((2, .bool false) :: (16, .bool false) :: (15, .bool false) :: (14, undef) :: (13, undef) :: (12, .bool false) :: _) rfl ?_
     exact leaf_q (sub_out 15 _ rfl (by kernel_rfl) ⟨(congrArg Value.bool (by rw [decide_eq_true h5, decide_eq_false h6, decide_eq_false h7] <;> rfl)), trivial⟩)
  ·refine qa 6 ((10, .int .u8 _) :: (9, .bool false) :: (8, .bool false) :: (7, undef) :: (6, undef) :: (5, .bool false) :: _) rfl ?_
   refine qd 11 (fun _ _ => op_geqK rfl rfl) (fun h8 => ?_) (fun h8 => ?_)
   ·refine qa 2 ((13, .int .u8 _) :: (12, .bool true) :: _) rfl ?_
    refine q_ 14 (fun _ _ => op_leqK rfl rfl) ?_
    refine qa 3 ((2, .bool _) :: (16, .bool _) :: (15, .bool _) :: _) rfl ?_
    exact leaf_q (sub_out 15 _ rfl (by kernel_rfl) ⟨(congrArg Value.bool (by rw [decide_eq_false h5, decide_eq_true h8] <;> rfl)), trivial⟩)
   ·refine qa 6 ((2, .bool false) :: (16, .bool false) :: (15, .bool false) :: (14, undef) :: (13, undef) :: (12, .bool false) :: _) rfl ?_
    exact leaf_q (sub_out 15 _ rfl (by kernel_rfl) ⟨(congrArg Value.bool (by rw [decide_eq_false h5, decide_eq_false h8] <;> rfl)), trivial⟩)
 refine xm_next ?_
 refine cm_ret ?_
 exact xm_retT rfl (by kernel_rfl) (show _ = Value.bool _ from rfl) fun w1 c1 => ⟨(), rfl, hsub [] (by kernel_rfl) rfl w1 c1⟩
/-- recyclingref04.Valid -/
def m_recyclingref04_Valid (N : Nat) (p0 : ByteArray) : Option (Bool) :=
 ck ((!((decide ((ByteArray.size p0 : Int) < 1)) || (decide (32 < (ByteArray.size p0 : Int))))) = true → (0 : Int) ≤ 0 ∧ 0 < (ByteArray.size p0 : Int)) (
  callIf ((!((decide ((ByteArray.size p0 : Int) < 1)) || (decide (32 < (ByteArray.size p0 : Int))))) = true) (m_recyclingref04_letter N (bget p0 (0 : Int))) fun r6 => (if (((decide ((ByteArray.size p0 : Int) < 1)) || (decide (32 < (ByteArray.size p0 : Int)))) || (!r6)) = true then
   some (false)
  else
   (andThen
    (loopM (fun (s88 : Int) =>
     (if s88 < (ByteArray.size p0 : Int) then
      ck ((0 : Int) ≤ s88 ∧ s88 < (ByteArray.size p0 : Int)) (
       Option.bind (m_recyclingref04_letter N (bget p0 s88)) fun r92 => (if (((((!r92) && ((decide ((bget p0 s88) < 48)) || (decide (57 < (bget p0 s88))))) && (decide ((bget p0 s88) ≠ 45))) && (decide ((bget p0 s88) ≠ 95))) && (decide ((bget p0 s88) ≠ 46))) = true then
        some (.done (.done (false)))
       else
        ck (I64 (s88 + (1 : Int))) (
         some (.next (s88 + (1 : Int))))))
     else
      some (.done (.next ())))) N (0 : Int))
   fun (_s56 : Unit) =>
    some (true))))
set_option maxHeartbeats 2000000 in
set_option maxRecDepth 20000 in
theorem m_recyclingref04_Valid_ok (N : Nat) (w0 : World) (p0 : ByteArray)   (r : Bool) (hr : m_recyclingref04_Valid N p0 = some r) :
  Ret Tryz.prog 80 [.string p0] w0 (fun (r : Bool) (_u : Unit) => .bool r) (fun (_r : Bool) (_u : Unit) => []) r := by
 refine calls_v (n := 51) r hr Tryz.func80 ?_
 unfold m_recyclingref04_Valid
 refine sr ?_
 refine la 1 ((2, .bool false) :: _) rfl ?_
 refine nn ?_
 refine cm_seq ?_
 refine cm_seq ?_
 refine cm_ck (fun h5 => ?_)
 refine cm_callIf fun r6 h7 => ?_
 refine cm_cutE [(18, .bool (((decide ((ByteArray.size p0 : Int) < 1)) || (decide (32 < (ByteArray.size p0 : Int)))) || (!r6)))] ?_ ?_
 ·refine qa 1 ((5, .string _) :: _) rfl ?_
  refine q_ 6 (fun _ _ => op_lenS rfl (by kernel_rfl)) ?_
  refine qd 7 (fun _ _ => op_lss rfl rfl) (fun h8 => ?_) (fun h8 => ?_)
  ·refine qa 11 ((18, .bool true) :: (17, undef) :: (16, undef) :: (15, undef) :: (14, undef) :: (13, .bool true) :: (12, .bool true) :: (11, undef) :: (10, undef) :: (9, undef) :: (8, .bool true) :: _) rfl ?_
   exact leaf_q (sub_out 14 _ rfl (by kernel_rfl) ⟨(congrArg Value.bool (by rw [decide_eq_true h8] <;> rfl)), trivial⟩)
  ·refine qa 2 ((9, .string _) :: (8, .bool false) :: _) rfl ?_
   refine q_ 10 (fun _ _ => op_lenS rfl (by kernel_rfl)) ?_
   refine qd 11 (fun _ _ => op_gtr rfl rfl) (fun h9 => ?_) (fun h9 => ?_)
   ·refine qa 7 ((18, .bool true) :: (17, undef) :: (16, undef) :: (15, undef) :: (14, undef) :: (13, .bool true) :: (12, .bool true) :: _) rfl ?_
    exact leaf_q (sub_out 14 _ rfl (by kernel_rfl) ⟨(congrArg Value.bool (by rw [decide_eq_false h8, decide_eq_true h9] <;> rfl)), trivial⟩)
   ·refine qa 3 ((14, .string _) :: (13, .bool false) :: (12, .bool false) :: _) rfl ?_
    refine q_ 15 (fun _ _ => op_indexS rfl rfl (by kernel_rfl) (h5 (by rw [decide_eq_false h8, decide_eq_false h9] <;> rfl)).1 (h5 (by rw [decide_eq_false h8, decide_eq_false h9] <;> rfl)).2) ?_
    refine wq_call 16 (by kernel_rfl) (fun w1 c1 => op_call (by kernel_rfl)) (fun w1 c1 => (m_recyclingref04_letter_ok N w1 (bget p0 (0 : Int))  r6 (h7 (by rw [decide_eq_false h8, decide_eq_false h9] <;> rfl))).mono (fun _ _ ⟨_, hx, hu⟩ => ⟨hx, c1.call hu⟩)) ?_
    refine qa 2 ((18, .bool _) :: (17, .bool _) :: _) rfl ?_
    exact leaf_q (sub_out 14 _ rfl (by kernel_rfl) ⟨(congrArg Value.bool (by rw [decide_eq_false h8, decide_eq_false h9] <;> rfl)), trivial⟩)
 refine xm_next ?_
 refine cm_condB (by kernel_rfl) rfl (fun h10 => ?_) (fun h10 => ?_)
 ·refine sr ?_
  refine la 1 ((2, .bool false) :: _) rfl ?_
  refine nn ?_
  refine cm_ret ?_
  refine xm_thenR ?_
  exact xm_retT rfl (by kernel_rfl) (show _ = Value.bool false from rfl) fun w1 c1 => ⟨(), rfl, hsub [] (by kernel_rfl) rfl w1 c1⟩
 ·refine sk ?_
  refine cm_join (σ := Unit) (ξ := Unit) (fun s56 u57 => []) (fun s56 u57 => []) ?_ ?_
  ·refine sr ?_
   refine la 1 ((3, .int .i64 _) :: _) rfl ?_
   refine nn ?_
   refine cm_block ?_
   refine cm_loop (σ := Int) (ξ := Unit) (fun s88 u89 => [(0, .string p0), (3, .int .i64 s88)]) (fun s88 u89 => []) () ?_ ?_ ?_
   ·exact sq
   ·exact sh []
   intro s88 u89
   refine cm_seq ?_
   refine sr ?_
   refine la 2 ((20, .string _) :: (19, .int .i64 _) :: _) rfl ?_
   refine v_ 21 (fun _ _ => op_lenS rfl (by kernel_rfl)) ?_
   refine la 1 ((22, .bool _) :: _) rfl ?_
   refine nn ?_
   refine cm_cond (by kernel_rfl) rfl (fun h90 => ?_) (fun h90 => ?_)
   ·refine sk ?_
    refine cm_seq ?_
    refine cm_block ?_
    refine sr ?_
    refine la 2 ((26, .int .i64 _) :: (25, .string _) :: _) rfl ?_
    refine lm_ck (fun h91 => ?_)
    refine v_ 27 (fun _ _ => op_indexS rfl rfl (by kernel_rfl) h91.1 h91.2) ?_
    refine la 1 ((4, .int .u8 _) :: _) rfl ?_
    refine nn ?_
    refine cm_seq ?_
    refine cm_bind fun r92 h93 => ?_
    refine cm_cutE [(50, .bool (((((!r92) && ((decide ((bget p0 s88) < 48)) || (decide (57 < (bget p0 s88))))) && (decide ((bget p0 s88) ≠ 45))) && (decide ((bget p0 s88) ≠ 95))) && (decide ((bget p0 s88) ≠ 46))))] ?_ ?_
    ·refine qa 1 ((28, .int .u8 _) :: _) rfl ?_
     refine wq_callb 29 (by kernel_rfl) (fun w1 c1 => op_call (by kernel_rfl)) (fun w1 c1 => (m_recyclingref04_letter_ok N w1 (bget p0 s88)  r92 h93).mono (fun _ _ ⟨_, hx, hu⟩ => ⟨hx, c1.call hu⟩)) (fun h94 => ?_) (fun h94 => ?_)
     ·refine qa 21 ((50, .bool false) :: (49, undef) :: (48, undef) :: (47, .bool false) :: (46, .bool false) :: (45, undef) :: (44, undef) :: (43, .bool false) :: (42, .bool false) :: (41, undef) :: (40, undef) :: (39, .bool false) :: (38, .bool false) :: (37, undef) :: (36, undef) :: (35, undef) :: (34, undef) :: (33, undef) :: (32, undef) :: (31, .bool false) :: (30, .bool false) :: _) rfl ?_
      exact leaf_q (sub_out 23 _ rfl (by kernel_rfl) ⟨(congrArg Value.bool (by rw [h94] <;> rfl)), trivial⟩)
     ·refine qa 3 ((32, .int .u8 _) :: (31, .bool true) :: (30, .bool true) :: _) rfl ?_
      refine qd 33 (fun _ _ => op_lssK rfl rfl) (fun h95 => ?_) (fun h95 => ?_)
      ·refine qa 7 ((40, .int .u8 _) :: (39, .bool true) :: (38, .bool true) :: (37, .bool true) :: (36, undef) :: (35, undef) :: (34, .bool true) :: _) rfl ?_
       refine qd 41 (fun _ _ => op_neqK rfl rfl) (fun h96 => ?_) (fun h96 => ?_)
       ·refine qa 3 ((44, .int .u8 _) :: (43, .bool true) :: (42, .bool true) :: _) rfl ?_
        refine qd 45 (fun _ _ => op_neqK rfl rfl) (fun h97 => ?_) (fun h97 => ?_)
        ·refine qa 3 ((48, .int .u8 _) :: (47, .bool true) :: (46, .bool true) :: _) rfl ?_
         refine q_ 49 (fun _ _ => op_neqK rfl rfl) ?_
         refine qa 1 ((50, .bool _) :: _) rfl ?_
         exact leaf_q (sub_out 23 _ rfl (by kernel_rfl) ⟨(congrArg Value.bool (by rw [h94, decide_eq_true h95, decide_eq_true h96, decide_eq_true h97] <;> rfl)), trivial⟩)
        ·refine qa 5 ((50, .bool false) :: (49, undef) :: (48, undef) :: (47, .bool false) :: (46, .bool false) :: _) rfl ?_
         exact leaf_q (sub_out 23 _ rfl (by kernel_rfl) ⟨(congrArg Value.bool (by rw [h94, decide_eq_true h95, decide_eq_true h96, decide_eq_false h97] <;> rfl)), trivial⟩)
       ·refine qa 9 ((50, .bool false) :: (49, undef) :: (48, undef) :: (47, .bool false) :: (46, .bool false) :: (45, undef) :: (44, undef) :: (43, .bool false) :: (42, .bool false) :: _) rfl ?_
        exact leaf_q (sub_out 23 _ rfl (by kernel_rfl) ⟨(congrArg Value.bool (by rw [h94, decide_eq_true h95, decide_eq_false h96] <;> rfl)), trivial⟩)
      ·refine qa 2 ((35, .int .u8 _) :: (34, .bool false) :: _) rfl ?_
       refine qd 36 (fun _ _ => op_gtrK rfl rfl) (fun h98 => ?_) (fun h98 => ?_)
       ·refine qa 4 ((40, .int .u8 _) :: (39, .bool true) :: (38, .bool true) :: (37, .bool true) :: _) rfl ?_
        refine qd 41 (fun _ _ => op_neqK rfl rfl) (fun h99 => ?_) (fun h99 => ?_)
        ·refine qa 3 ((44, .int .u8 _) :: (43, .bool true) :: (42, .bool true) :: _) rfl ?_
         refine qd 45 (fun _ _ => op_neqK rfl rfl) (fun h100 => ?_) (fun h100 => ?_)
         ·refine qa 3 ((48, .int .u8 _) :: (47, .bool true) :: (46, .bool true) :: _) rfl ?_
          refine q_ 49 (fun _ _ => op_neqK rfl rfl) ?_
          refine qa 1 ((50, .bool _) :: _) rfl ?_
          exact leaf_q (sub_out 23 _ rfl (by kernel_rfl) ⟨(congrArg Value.bool (by rw [h94, decide_eq_false h95, decide_eq_true h98, decide_eq_true h99, decide_eq_true h100] <;> rfl)), trivial⟩)
         ·refine qa 5 ((50, .bool false) :: (49, undef) :: (48, undef) :: (47, .bool false) :: (46, .bool false) :: _) rfl ?_
          exact leaf_q (sub_out 23 _ rfl (by kernel_rfl) ⟨(congrArg Value.bool (by rw [h94, decide_eq_false h95, decide_eq_true h98, decide_eq_true h99, decide_eq_false h100] <;> rfl)), trivial⟩)
        ·refine qa 9 ((50, .bool false) :: (49, undef) :: (48, undef) :: (47, .bool false) :: (46, .bool false) :: (45, undef) :: (44, undef) :: (43, .bool false) :: (42, .bool false) :: _) rfl ?_
         exact leaf_q (sub_out 23 _ rfl (by kernel_rfl) ⟨(congrArg Value.bool (by rw [h94, decide_eq_false h95, decide_eq_true h98, decide_eq_false h99] <;> rfl)), trivial⟩)
       ·refine qa 14 ((50, .bool false) :: (49, undef) :: (48, undef) :: (47, .bool false) :: (46, .bool false) :: (45, undef) :: (44, undef) :: (43, .bool false) :: (42, .bool false) :: (41, undef) :: (40, undef) :: (39, .bool false) :: (38, .bool false) :: (37, .bool false) :: _) rfl ?_
        exact leaf_q (sub_out 23 _ rfl (by kernel_rfl) ⟨(congrArg Value.bool (by rw [h94, decide_eq_false h95, decide_eq_false h98] <;> rfl)), trivial⟩)
    refine xm_next ?_
    refine cm_condB (by kernel_rfl) rfl (fun h101 => ?_) (fun h101 => ?_)
    ·refine sr ?_
     refine la 1 ((2, .bool false) :: _) rfl ?_
     refine nn ?_
     refine cm_ret ?_
     refine xm_inR ?_
     refine xm_thenR ?_
     refine xm_lret ?_
     refine xm_inR ?_
     refine xm_lret ?_
     exact xm_retT rfl (by kernel_rfl) (show _ = Value.bool false from rfl) fun w1 c1 => ⟨(), rfl, hsub [] (by kernel_rfl) rfl w1 c1⟩
    ·refine cm_skip ?_
     refine xm_inN ?_
     refine xm_next ?_
     refine cm_region ?_
     refine la 1 ((23, .int .i64 _) :: _) rfl ?_
     refine lm_ck (fun h102 => ?_)
     refine v_ 24 (fun _ _ => op_add rfl rfl h102) ?_
     refine la 1 ((3, .int .i64 _) :: _) rfl ?_
     refine lm_nil ?_
     exact xm_lnext () sq (sh [])
   ·refine cm_exit ?_
    refine xm_thenE ?_
    refine xm_lexit ?_
    refine xm_here ?_
    exact xm_lnext () sub_nil (sh [])
  intro s56 u57
  refine sr ?_
  refine la 1 ((2, .bool true) :: _) rfl ?_
  refine nn ?_
  refine cm_ret ?_
  exact xm_retT rfl (by kernel_rfl) (show _ = Value.bool true from rfl) fun w1 c1 => ⟨(), rfl, hsub [] (by kernel_rfl) rfl w1 c1⟩
/-- recyclingref13.Check -/
def m_recyclingref13_Check (N : Nat) (p0 : (List ApiContainer)) (p1 : Int) (p2 : Int) : Option (Int) :=
 (if 256 < (List.length p0 : Int) then
  some ((8 : Int))
 else
  (andThen
   (loopM (fun (s93 : Int) =>
    (if s93 < (List.length p0 : Int) then
     ck ((0 : Int) ≤ s93 ∧ s93 < (List.length p0 : Int)) (
      Option.bind (m_recyclingref04_Valid N ((ix p0 s93).ID)) fun r98 => (if (!r98) = true then
       some (.done (.done ((5 : Int))))
      else
       (if ((decide ((ix p0 s93).Kind < 0)) || (decide (p1 ≤ (ix p0 s93).Kind))) = true then
        some (.done (.done ((21 : Int))))
       else
        (if ((((decide ((ix p0 s93).Litres < 1)) || (decide (40000 < (ix p0 s93).Litres))) || (decide ((ix p0 s93).Grams < 1))) || (decide (1073741824 < (ix p0 s93).Grams))) = true then
         some (.done (.done ((1 : Int))))
        else
         (if ((decide ((ix p0 s93).Node < 0)) || (decide (p2 ≤ (ix p0 s93).Node))) = true then
          some (.done (.done ((7 : Int))))
         else
          ck (I64 (s93 + (1 : Int))) (
           some (.next (s93 + (1 : Int)))))))))
    else
     some (.done (.next ())))) N (0 : Int))
  fun (_s57 : Unit) =>
   (andThen
    (loopM (fun (s352 : Int) =>
     (if s352 < (List.length p0 : Int) then
      (andThen
       (loopM (fun (s392 : Int) =>
        (if s392 < s352 then
         ck ((0 : Int) ≤ s352 ∧ s352 < (List.length p0 : Int)) (
          ck ((0 : Int) ≤ s392 ∧ s392 < (List.length p0 : Int)) (
           (if ((ix p0 s352).ID) = ((ix p0 s392).ID) then
            some (.done (.done (.done (.done ((6 : Int))))))
           else
            ck (I64 (s392 + (1 : Int))) (
             some (.next (s392 + (1 : Int)))))))
        else
         some (.done (.next ())))) N (0 : Int))
      fun (_s376 : Unit) =>
       ck (I64 (s352 + (1 : Int))) (
        some (.next (s352 + (1 : Int)))))
     else
      some (.done (.next ())))) N (0 : Int))
   fun (_s254 : Unit) =>
    some ((0 : Int)))))
set_option maxHeartbeats 2000000 in
set_option maxRecDepth 20000 in
theorem m_recyclingref13_Check_ok (N : Nat) (w0 : World) (p0 : (List ApiContainer)) (p1 : Int) (p2 : Int) (A_p0 : Option Addr) (n_p0 c_p0 : Nat) (hr_p0 : RdE w0 5 encApiContainer A_p0 p0) (hz_p0 : SW A_p0 n_p0 c_p0 (List.length p0)) (r : Int) (hr : m_recyclingref13_Check N p0 p1 p2 = some r) :
  Ret Tryz.prog 37 [.slice A_p0 n_p0 c_p0, .int .i64 p1, .int .i64 p2] w0 (fun (r : Int) (_u : Unit) => .int .i64 r) (fun (_r : Int) (_u : Unit) => []) r := by
 refine calls_v (n := 83) r hr Tryz.func37 ?_
 unfold m_recyclingref13_Check
 refine sr ?_
 refine la 1 ((6, .int .i64 _) :: _) rfl ?_
 refine nn ?_
 refine cm_seq ?_
 refine sr ?_
 refine la 1 ((11, .slice _ _ _) :: _) rfl ?_
 refine v_ 12 (fun _ _ => op_lenN rfl (by kernel_rfl) hz_p0.2.2) ?_
 refine la 1 ((13, .bool _) :: _) rfl ?_
 refine nn ?_
 refine cm_cond (by kernel_rfl) rfl (fun h5 => ?_) (fun h5 => ?_)
 ·refine sr ?_
  refine la 1 ((6, .int .i64 _) :: _) rfl ?_
  refine nn ?_
  refine cm_ret ?_
  refine xm_thenR ?_
  exact xm_retT rfl (by kernel_rfl) (show _ = Value.int .i64 _ from rfl) fun w1 c1 => ⟨(), rfl, hsub [] (by kernel_rfl) rfl w1 c1⟩
 ·refine sk ?_
  refine cm_join (σ := Unit) (ξ := Unit) (fun s57 u58 => [(0, .slice A_p0 n_p0 c_p0)]) (fun s57 u58 => []) ?_ ?_
  ·refine sr ?_
   refine la 1 ((14, .slice _ _ _) :: _) rfl ?_
   refine v_ 15 (fun _ _ => op_lenN rfl (by kernel_rfl) hz_p0.2.2) ?_
   refine la 1 ((16, .int .i64 _) :: _) rfl ?_
   refine nn ?_
   refine cm_block ?_
   refine cm_loop (σ := Int) (ξ := Unit) (fun s93 u94 => [(0, .slice A_p0 n_p0 c_p0), (1, .int .i64 p1), (2, .int .i64 p2), (14, .slice A_p0 n_p0 c_p0), (15, .int .i64 (List.length p0 : Int)), (16, .int .i64 s93)]) (fun s93 u94 => []) () ?_ ?_ ?_
   ·exact sq
   ·exact sh []
   intro s93 u94
   refine sr ?_
   refine la 1 ((17, .bool _) :: _) rfl ?_
   refine nn ?_
   refine cm_seq ?_
   refine cm_cond (by kernel_rfl) rfl (fun h95 => ?_) (fun h95 => ?_)
   ·refine sk ?_
    refine cm_seq ?_
    refine cm_block ?_
    refine sr ?_
    refine lm_ck (fun h96 => ?_)
    refine v_ 18 (fun _ c1 => oI 5 rfl rfl ((hr_p0.old c1).addr h96.1 h96.2) hz_p0.2.2 h96) ?_
    refine v_ 19 (fun _ c1 => oR [.string ((ix p0 s93).ID), .int .i64 ((ix p0 s93).Kind), .int .i64 ((ix p0 s93).Litres), .int .i64 ((ix p0 s93).Grams), .int .i64 ((ix p0 s93).Node)] ((hr_p0.old c1).row h96.1 h96.2)) ?_
    refine lm_alloc 8 [.string (⟨#[]⟩ : ByteArray), .int .i64 0, .int .i64 0, .int .i64 0, .int .i64 0] (v := .agg #[.string (⟨#[]⟩ : ByteArray), .int .i64 0, .int .i64 0, .int .i64 0, .int .i64 0]) (by kernel_rfl) (by kernel_rfl) rfl ?_
    intro b97
    refine lm_storeA 0 [.string _, .int .i64 _, .int .i64 _, .int .i64 _, .int .i64 _] [_, _, _, _, _] (H' := [blkE _ _ [_, _, _, _, _]]) (by kernel_rfl) rfl rfl (by kernel_rfl) rfl rfl (by kernel_rfl) rfl rfl ?_
    refine nn ?_
    refine cm_seq ?_
    refine sr ?_
    refine v_ 20 (fun _ _ => oF 0 0 rfl) ?_
    refine v_ 21 (fun _ c1 => oL (c1.cell 0 (u := .string _) rfl rfl)) ?_
    refine lm_call 22 (V := (fun (r : Bool) (_u : Unit) => .bool r)) (HR := (fun (_r : Bool) (_u : Unit) => [])) (by kernel_rfl) (fun w1 => op_call (by kernel_rfl)) (fun r1 hr1 w1 c1 => m_recyclingref04_Valid_ok N w1 ((ix p0 s93).ID)  r1 hr1) ?_
    intro r98 u99
    refine la 1 ((23, .bool _) :: _) rfl ?_
    refine nn ?_
    refine cm_condB (by kernel_rfl) rfl (fun h100 => ?_) (fun h100 => ?_)
    ·refine sr ?_
     refine la 1 ((6, .int .i64 _) :: _) rfl ?_
     refine nn ?_
     refine cm_ret ?_
     refine xm_thenR ?_
     refine xm_inR ?_
     refine xm_thenR ?_
     refine xm_lret ?_
     refine xm_inR ?_
     refine xm_lret ?_
     exact xm_retT rfl (by kernel_rfl) (show _ = Value.int .i64 _ from rfl) fun w1 c1 => ⟨(), rfl, hsub [] (by kernel_rfl) rfl w1 c1⟩
    ·refine sk ?_
     refine cm_seq ?_
     refine cm_seq ?_
     refine cm_cutE [(32, .bool ((decide ((ix p0 s93).Kind < 0)) || (decide (p1 ≤ (ix p0 s93).Kind))))] ?_ ?_
     ·refine q_ 24 (fun _ _ => oF 1 1 rfl) ?_
      refine q_ 25 (fun _ c1 => oL (c1.cell 0 (u := .int .i64 _) rfl rfl)) ?_
      refine qd 26 (fun _ _ => op_lss rfl rfl) (fun h101 => ?_) (fun h101 => ?_)
      ·refine qa 6 ((32, .bool true) :: (31, undef) :: (30, undef) :: (29, undef) :: (28, undef) :: (27, .bool true) :: _) rfl ?_
       exact leaf_q (sub_out 9 _ rfl (by kernel_rfl) ⟨(congrArg Value.bool (by rw [decide_eq_true h101] <;> rfl)), trivial⟩)
      ·refine qa 1 ((27, .bool false) :: _) rfl ?_
       refine q_ 28 (fun _ _ => oF 1 1 rfl) ?_
       refine q_ 29 (fun _ c1 => oL (c1.cell 0 (u := .int .i64 _) rfl rfl)) ?_
       refine qa 3 ((32, .bool _) :: (31, .bool _) :: (30, .int .i64 _) :: _) rfl ?_
       exact leaf_q (sub_out 9 _ rfl (by kernel_rfl) ⟨(congrArg Value.bool (by rw [decide_eq_false h101] <;> rfl)), trivial⟩)
     refine xm_next ?_
     refine cm_condB (by kernel_rfl) rfl (fun h102 => ?_) (fun h102 => ?_)
     ·refine sr ?_
      refine la 1 ((6, .int .i64 _) :: _) rfl ?_
      refine nn ?_
      refine cm_ret ?_
      refine xm_thenR ?_
      refine xm_inR ?_
      refine xm_thenR ?_
      refine xm_lret ?_
      refine xm_inR ?_
      refine xm_lret ?_
      exact xm_retT rfl (by kernel_rfl) (show _ = Value.int .i64 _ from rfl) fun w1 c1 => ⟨(), rfl, hsub [] (by kernel_rfl) rfl w1 c1⟩
     ·refine sk ?_
      refine cm_seq ?_
      refine cm_seq ?_
      refine cm_cutE [(50, .bool ((((decide ((ix p0 s93).Litres < 1)) || (decide (40000 < (ix p0 s93).Litres))) || (decide ((ix p0 s93).Grams < 1))) || (decide (1073741824 < (ix p0 s93).Grams))))] ?_ ?_
      ·refine q_ 33 (fun _ _ => oF 2 2 rfl) ?_
       refine q_ 34 (fun _ c1 => oL (c1.cell 0 (u := .int .i64 _) rfl rfl)) ?_
       refine qd 35 (fun _ _ => op_lss rfl rfl) (fun h103 => ?_) (fun h103 => ?_)
       ·refine qa 15 ((50, .bool true) :: (49, undef) :: (48, undef) :: (47, undef) :: (46, .bool true) :: (45, .bool true) :: (44, undef) :: (43, undef) :: (42, undef) :: (41, .bool true) :: (40, .bool true) :: (39, undef) :: (38, undef) :: (37, undef) :: (36, .bool true) :: _) rfl ?_
        exact leaf_q (sub_out 18 _ rfl (by kernel_rfl) ⟨(congrArg Value.bool (by rw [decide_eq_true h103] <;> rfl)), trivial⟩)
       ·refine qa 1 ((36, .bool false) :: _) rfl ?_
        refine q_ 37 (fun _ _ => oF 2 2 rfl) ?_
        refine q_ 38 (fun _ c1 => oL (c1.cell 0 (u := .int .i64 _) rfl rfl)) ?_
        refine qd 39 (fun _ _ => op_gtr rfl rfl) (fun h104 => ?_) (fun h104 => ?_)
        ·refine qa 11 ((50, .bool true) :: (49, undef) :: (48, undef) :: (47, undef) :: (46, .bool true) :: (45, .bool true) :: (44, undef) :: (43, undef) :: (42, undef) :: (41, .bool true) :: (40, .bool true) :: _) rfl ?_
         exact leaf_q (sub_out 18 _ rfl (by kernel_rfl) ⟨(congrArg Value.bool (by rw [decide_eq_false h103, decide_eq_true h104] <;> rfl)), trivial⟩)
        ·refine qa 2 ((41, .bool false) :: (40, .bool false) :: _) rfl ?_
         refine q_ 42 (fun _ _ => oF 3 3 rfl) ?_
         refine q_ 43 (fun _ c1 => oL (c1.cell 0 (u := .int .i64 _) rfl rfl)) ?_
         refine qd 44 (fun _ _ => op_lss rfl rfl) (fun h105 => ?_) (fun h105 => ?_)
         ·refine qa 6 ((50, .bool true) :: (49, undef) :: (48, undef) :: (47, undef) :: (46, .bool true) :: (45, .bool true) :: _) rfl ?_
          exact leaf_q (sub_out 18 _ rfl (by kernel_rfl) ⟨(congrArg Value.bool (by rw [decide_eq_false h103, decide_eq_false h104, decide_eq_true h105] <;> rfl)), trivial⟩)
         ·refine qa 2 ((46, .bool false) :: (45, .bool false) :: _) rfl ?_
          refine q_ 47 (fun _ _ => oF 3 3 rfl) ?_
          refine q_ 48 (fun _ c1 => oL (c1.cell 0 (u := .int .i64 _) rfl rfl)) ?_
          refine qa 2 ((50, .bool _) :: (49, .bool _) :: _) rfl ?_
          exact leaf_q (sub_out 18 _ rfl (by kernel_rfl) ⟨(congrArg Value.bool (by rw [decide_eq_false h103, decide_eq_false h104, decide_eq_false h105] <;> rfl)), trivial⟩)
      refine xm_next ?_
      refine cm_condB (by kernel_rfl) rfl (fun h106 => ?_) (fun h106 => ?_)
      ·refine sr ?_
       refine la 1 ((6, .int .i64 _) :: _) rfl ?_
       refine nn ?_
       refine cm_ret ?_
       refine xm_thenR ?_
       refine xm_inR ?_
       refine xm_thenR ?_
       refine xm_lret ?_
       refine xm_inR ?_
       refine xm_lret ?_
       exact xm_retT rfl (by kernel_rfl) (show _ = Value.int .i64 _ from rfl) fun w1 c1 => ⟨(), rfl, hsub [] (by kernel_rfl) rfl w1 c1⟩
      ·refine sk ?_
       refine cm_seq ?_
       refine cm_cutE [(59, .bool ((decide ((ix p0 s93).Node < 0)) || (decide (p2 ≤ (ix p0 s93).Node))))] ?_ ?_
       ·refine q_ 51 (fun _ _ => oF 4 4 rfl) ?_
        refine q_ 52 (fun _ c1 => oL (c1.cell 0 (u := .int .i64 _) rfl rfl)) ?_
        refine qd 53 (fun _ _ => op_lss rfl rfl) (fun h107 => ?_) (fun h107 => ?_)
        ·refine qa 6 ((59, .bool true) :: (58, undef) :: (57, undef) :: (56, undef) :: (55, undef) :: (54, .bool true) :: _) rfl ?_
         exact leaf_q (sub_out 9 _ rfl (by kernel_rfl) ⟨(congrArg Value.bool (by rw [decide_eq_true h107] <;> rfl)), trivial⟩)
        ·refine qa 1 ((54, .bool false) :: _) rfl ?_
         refine q_ 55 (fun _ _ => oF 4 4 rfl) ?_
         refine q_ 56 (fun _ c1 => oL (c1.cell 0 (u := .int .i64 _) rfl rfl)) ?_
         refine qa 3 ((59, .bool _) :: (58, .bool _) :: (57, .int .i64 _) :: _) rfl ?_
         exact leaf_q (sub_out 9 _ rfl (by kernel_rfl) ⟨(congrArg Value.bool (by rw [decide_eq_false h107] <;> rfl)), trivial⟩)
       refine xm_next ?_
       refine cm_condB (by kernel_rfl) rfl (fun h108 => ?_) (fun h108 => ?_)
       ·refine sr ?_
        refine la 1 ((6, .int .i64 _) :: _) rfl ?_
        refine nn ?_
        refine cm_ret ?_
        refine xm_inR ?_
        refine xm_thenR ?_
        refine xm_lret ?_
        refine xm_inR ?_
        refine xm_lret ?_
        exact xm_retT rfl (by kernel_rfl) (show _ = Value.int .i64 _ from rfl) fun w1 c1 => ⟨(), rfl, hsub [] (by kernel_rfl) rfl w1 c1⟩
       ·refine cm_skip ?_
        refine xm_inN ?_
        refine xm_next ?_
        refine cm_region ?_
        refine lm_ck (fun h109 => ?_)
        refine v_ 60 (fun _ _ => op_add rfl rfl h109) ?_
        refine la 1 ((16, .int .i64 _) :: _) rfl ?_
        refine lm_nil ?_
        exact xm_lnext () sq (sh [])
   ·refine cm_exit ?_
    refine xm_thenE ?_
    refine xm_lexit ?_
    refine xm_here ?_
    exact xm_lnext () sq (sh [])
  intro s57 u58
  refine cm_join (σ := Unit) (ξ := Unit) (fun s254 u255 => []) (fun s254 u255 => []) ?_ ?_
  ·refine sr ?_
   refine la 1 ((61, .slice _ _ _) :: _) rfl ?_
   refine v_ 62 (fun _ _ => op_lenN rfl (by kernel_rfl) hz_p0.2.2) ?_
   refine la 1 ((63, .int .i64 _) :: _) rfl ?_
   refine nn ?_
   refine cm_block ?_
   refine cm_loop (σ := Int) (ξ := Unit) (fun s352 u353 => [(0, .slice A_p0 n_p0 c_p0), (62, .int .i64 (List.length p0 : Int)), (63, .int .i64 s352)]) (fun s352 u353 => []) () ?_ ?_ ?_
   ·exact sq
   ·exact sh []
   intro s352 u353
   refine sr ?_
   refine la 1 ((64, .bool _) :: _) rfl ?_
   refine nn ?_
   refine cm_seq ?_
   refine cm_cond (by kernel_rfl) rfl (fun h354 => ?_) (fun h354 => ?_)
   ·refine sk ?_
    refine cm_join (σ := Unit) (ξ := Unit) (fun s376 u377 => [(0, .slice A_p0 n_p0 c_p0), (62, .int .i64 (List.length p0 : Int)), (63, .int .i64 s352)]) (fun s376 u377 => []) ?_ ?_
    ·refine cm_block ?_
     refine sr ?_
     refine la 2 ((9, .int .i64 _) :: (65, .int .i64 _) :: _) rfl ?_
     refine nn ?_
     refine sr ?_
     refine la 1 ((10, .int .i64 _) :: _) rfl ?_
     refine nn ?_
     refine cm_block ?_
     refine cm_loop (σ := Int) (ξ := Unit) (fun s392 u393 => [(0, .slice A_p0 n_p0 c_p0), (9, .int .i64 s352), (10, .int .i64 s392), (62, .int .i64 (List.length p0 : Int)), (63, .int .i64 s352)]) (fun s392 u393 => []) () ?_ ?_ ?_
     ·exact sq
     ·exact sh []
     intro s392 u393
     refine cm_seq ?_
     refine sr ?_
     refine la 3 ((68, .bool _) :: (67, .int .i64 _) :: (66, .int .i64 _) :: _) rfl ?_
     refine nn ?_
     refine cm_cond (by kernel_rfl) rfl (fun h394 => ?_) (fun h394 => ?_)
     ·refine sk ?_
      refine cm_seq ?_
      refine cm_block ?_
      refine cm_seq ?_
      refine cm_ck (fun h395 => ?_)
      refine cm_ck (fun h396 => ?_)
      refine cm_drawn [(81, .bool (decide (((ix p0 s352).ID) = ((ix p0 s392).ID))))] (by kernel_rfl) (by kernel_rfl) ?_ ?_
      ·refine qa 2 ((72, .int .i64 _) :: (71, .slice _ _ _) :: _) rfl ?_
       refine q_ 73 (fun _ c1 => oI 5 rfl rfl ((hr_p0.old c1).addr h395.1 h395.2) hz_p0.2.2 h395) ?_
       refine q_ 74 (fun _ _ => op_field0 rfl (by kernel_rfl)) ?_
       refine q_ 75 (fun _ c1 => oL (v := .string ((ix p0 s352).ID)) ((hr_p0.old c1).cell0 h395.1 h395.2 rfl)) ?_
       refine qa 2 ((77, .int .i64 _) :: (76, .slice _ _ _) :: _) rfl ?_
       refine q_ 78 (fun _ c1 => oI 5 rfl rfl ((hr_p0.old c1).addr h396.1 h396.2) hz_p0.2.2 h396) ?_
       refine q_ 79 (fun _ _ => op_field0 rfl (by kernel_rfl)) ?_
       refine q_ 80 (fun _ c1 => oL (v := .string ((ix p0 s392).ID)) ((hr_p0.old c1).cell0 h396.1 h396.2 rfl)) ?_
       refine q_ 81 (fun _ _ => op_eqlS rfl rfl) ?_
       exact lq 11
      refine xm_next ?_
      refine cm_cond (by kernel_rfl) rfl (fun h397 => ?_) (fun h397 => ?_)
      ·refine sr ?_
       refine la 1 ((6, .int .i64 _) :: _) rfl ?_
       refine nn ?_
       refine cm_ret ?_
       refine xm_inR ?_
       refine xm_thenR ?_
       refine xm_lret ?_
       refine xm_inR ?_
       refine xm_inR ?_
       refine xm_lret ?_
       refine xm_lret ?_
       refine xm_inR ?_
       refine xm_lret ?_
       exact xm_retT rfl (by kernel_rfl) (show _ = Value.int .i64 _ from rfl) fun w1 c1 => ⟨(), rfl, hsub [] (by kernel_rfl) rfl w1 c1⟩
      ·refine cm_skip ?_
       refine xm_inN ?_
       refine xm_next ?_
       refine cm_region ?_
       refine la 1 ((69, .int .i64 _) :: _) rfl ?_
       refine lm_ck (fun h398 => ?_)
       refine v_ 70 (fun _ _ => op_add rfl rfl h398) ?_
       refine la 1 ((10, .int .i64 _) :: _) rfl ?_
       refine lm_nil ?_
       exact xm_lnext () sq (sh [])
     ·refine cm_exit ?_
      refine xm_thenE ?_
      refine xm_lexit ?_
      refine xm_here ?_
      refine xm_inN ?_
      exact xm_lnext () sq (sh [])
    intro s376 u377
    refine cm_region ?_
    refine lm_ck (fun h399 => ?_)
    refine v_ 82 (fun _ _ => op_add rfl rfl h399) ?_
    refine la 1 ((63, .int .i64 _) :: _) rfl ?_
    refine lm_nil ?_
    exact xm_lnext () sq (sh [])
   ·refine cm_exit ?_
    refine xm_thenE ?_
    refine xm_lexit ?_
    refine xm_here ?_
    exact xm_lnext () sub_nil (sh [])
  intro s254 u255
  refine sr ?_
  refine la 1 ((6, .int .i64 _) :: _) rfl ?_
  refine nn ?_
  refine cm_ret ?_
  exact xm_retT rfl (by kernel_rfl) (show _ = Value.int .i64 _ from rfl) fun w1 c1 => ⟨(), rfl, hsub [] (by kernel_rfl) rfl w1 c1⟩
/-- recyclingref14.Window -/
def m_recyclingref14_Window (_N : Nat) (p0 : ApiWindow) : Option (Bool) :=
 some ((((decide (0 ≤ p0.From)) && (decide (p0.From ≤ p0.To))) && (decide (p0.To ≤ 3155760000))))
set_option maxRecDepth 20000 in
theorem m_recyclingref14_Window_ok (N : Nat) (w0 : World) (p0 : ApiWindow)   (r : Bool) (hr : m_recyclingref14_Window N p0 = some r) :
  Ret Tryz.prog 81 [.agg #[.int .i64 p0.From, .int .i64 p0.To]] w0 (fun (r : Bool) (_u : Unit) => .bool r) (fun (_r : Bool) (_u : Unit) => []) r := by
 refine calls_v (n := 18) r hr Tryz.func81 ?_
 unfold m_recyclingref14_Window
 refine sr ?_
 refine lm_box 1 [.int .i64 _, .int .i64 _] (by kernel_rfl) rfl ?_
 intro b5
 refine la 1 ((2, .bool false) :: _) rfl ?_
 refine nn ?_
 refine cm_seq ?_
 refine cm_cutE [(2, .bool (((decide (0 ≤ p0.From)) && (decide (p0.From ≤ p0.To))) && (decide (p0.To ≤ 3155760000))))] ?_ ?_
 ·refine q_ 3 (fun _ _ => oF 0 0 rfl) ?_
  refine q_ 4 (fun _ c1 => oL (c1.cell 0 (u := .int .i64 _) rfl rfl)) ?_
  refine qd 5 (fun _ _ => op_geq rfl rfl) (fun h6 => ?_) (fun h6 => ?_)
  ·refine qa 1 ((6, .bool true) :: _) rfl ?_
   refine q_ 7 (fun _ _ => oF 0 0 rfl) ?_
   refine q_ 8 (fun _ c1 => oL (c1.cell 0 (u := .int .i64 _) rfl rfl)) ?_
   refine q_ 9 (fun _ _ => oF 1 1 rfl) ?_
   refine q_ 10 (fun _ c1 => oL (c1.cell 0 (u := .int .i64 _) rfl rfl)) ?_
   refine qd 11 (fun _ _ => op_leq rfl rfl) (fun h7 => ?_) (fun h7 => ?_)
   ·refine qa 2 ((13, .bool true) :: (12, .bool true) :: _) rfl ?_
    refine q_ 14 (fun _ _ => oF 1 1 rfl) ?_
    refine q_ 15 (fun _ c1 => oL (c1.cell 0 (u := .int .i64 _) rfl rfl)) ?_
    refine qa 3 ((2, .bool _) :: (17, .bool _) :: (16, .bool _) :: _) rfl ?_
    exact leaf_q (sub_out 16 _ rfl (by kernel_rfl) ⟨(congrArg Value.bool (by rw [decide_eq_true h6, decide_eq_true h7] <;> rfl)), trivial⟩)
   ·refine qa 7 ((2, .bool false) :: (17, .bool false) :: (16, undef) :: (15, undef) :: (14, undef) :: (13, .bool false) :: (12, .bool false) :: _) rfl ?_
    exact leaf_q (sub_out 16 _ rfl (by kernel_rfl) ⟨(congrArg Value.bool (by rw [decide_eq_true h6, decide_eq_false h7] <;> rfl)), trivial⟩)
  ·refine qa 13 ((2, .bool false) :: (17, .bool false) :: (16, undef) :: (15, undef) :: (14, undef) :: (13, .bool false) :: (12, .bool false) :: (11, undef) :: (10, undef) :: (9, undef) :: (8, undef) :: (7, undef) :: (6, .bool false) :: _) rfl ?_
   exact leaf_q (sub_out 16 _ rfl (by kernel_rfl) ⟨(congrArg Value.bool (by rw [decide_eq_false h6] <;> rfl)), trivial⟩)
 refine xm_next ?_
 refine cm_ret ?_
 exact xm_retT rfl (by kernel_rfl) (show _ = Value.bool _ from rfl) fun w1 c1 => ⟨(), rfl, hsub [] (by kernel_rfl) rfl w1 c1⟩
/-- recyclingref14.common -/
def m_recyclingref14_common (_N : Nat) (p0 : ApiWindow) (p1 : ApiWindow) : Option (ApiWindow × Bool) :=
 (andThen
  (if p0.From < p1.From then
   some (.next p1.From)
  else
   some (.next p0.From))
 fun (s9 : Int) =>
  (andThen
   (if p1.To < p0.To then
    some (.next p1.To)
   else
    some (.next p0.To))
  fun (s13 : Int) =>
   some (((ApiWindow.mk s9 s13), (decide (s9 < s13))))))
set_option maxRecDepth 20000 in
theorem m_recyclingref14_common_ok (N : Nat) (w0 : World) (p0 : ApiWindow) (p1 : ApiWindow)   (r : ApiWindow × Bool) (hr : m_recyclingref14_common N p0 p1 = some r) :
  Ret Tryz.prog 82 [.agg #[.int .i64 p0.From, .int .i64 p0.To], .agg #[.int .i64 p1.From, .int .i64 p1.To]] w0 (fun (r : ApiWindow × Bool) (_u : Unit) => .tuple #[.agg #[.int .i64 r.1.From, .int .i64 r.1.To], .bool r.2]) (fun (_r : ApiWindow × Bool) (_u : Unit) => []) r := by
 refine calls_v (n := 28) r hr Tryz.func82 ?_
 unfold m_recyclingref14_common
 refine sr ?_
 refine lm_box 2 [.int .i64 _, .int .i64 _] (by kernel_rfl) rfl ?_
 intro b5
 refine lm_box 3 [.int .i64 _, .int .i64 _] (by kernel_rfl) rfl ?_
 intro b6
 refine lm_alloc 4 [.int .i64 0, .int .i64 0] (v := .agg #[.int .i64 0, .int .i64 0]) (by kernel_rfl) (by kernel_rfl) rfl ?_
 intro b7
 refine la 1 ((5, .bool false) :: _) rfl ?_
 refine nn ?_
 refine cm_join (σ := Int) (ξ := Unit) (fun s9 u10 => [(2, .pointer (some ⟨b5, 0, none⟩)), (3, .pointer (some ⟨b6, 0, none⟩)), (4, .pointer (some ⟨b7, 0, none⟩))]) (fun s9 u10 => [blkE b5 34 [.int .i64 s9, .int .i64 p0.To], blkE b6 34 [.int .i64 p1.From, .int .i64 p1.To], blkE b7 34 [.int .i64 0, .int .i64 0]]) ?_ ?_
 ·refine sr ?_
  refine v_ 6 (fun _ _ => oF 0 0 rfl) ?_
  refine v_ 7 (fun _ c1 => oL (c1.cell 1 (u := .int .i64 _) rfl rfl)) ?_
  refine v_ 8 (fun _ _ => oF 0 0 rfl) ?_
  refine v_ 9 (fun _ c1 => oL (c1.cell 2 (u := .int .i64 _) rfl rfl)) ?_
  refine la 1 ((10, .bool _) :: _) rfl ?_
  refine nn ?_
  refine cm_cond (by kernel_rfl) rfl (fun h11 => ?_) (fun h11 => ?_)
  ·refine cm_region ?_
   refine v_ 11 (fun _ _ => oF 0 0 rfl) ?_
   refine v_ 12 (fun _ c1 => oL (c1.cell 1 (u := .int .i64 _) rfl rfl)) ?_
   refine v_ 13 (fun _ _ => oF 0 0 rfl) ?_
   refine lm_store1 2 (v := .int .i64 _) (H' := [_, _, blkE _ _ [_, _]]) (by kernel_rfl) rfl rfl (by kernel_rfl) rfl rfl (by kernel_rfl) rfl ?_
   refine lm_nil ?_
   exact xm_lnext () sq (sh [2, 1, 0])
  ·refine cm_skip ?_
   exact xm_lnext () sq (sh [2, 1, 0])
 intro s9 u10
 refine cm_join (σ := Int) (ξ := Unit) (fun s13 u14 => [(2, .pointer (some ⟨b5, 0, none⟩)), (4, .pointer (some ⟨b7, 0, none⟩))]) (fun s13 u14 => [blkE b5 34 [.int .i64 s9, .int .i64 s13], blkE b7 34 [.int .i64 0, .int .i64 0]]) ?_ ?_
 ·refine sr ?_
  refine v_ 14 (fun _ _ => oF 1 1 rfl) ?_
  refine v_ 15 (fun _ c1 => oL (c1.cell 1 (u := .int .i64 _) rfl rfl)) ?_
  refine v_ 16 (fun _ _ => oF 1 1 rfl) ?_
  refine v_ 17 (fun _ c1 => oL (c1.cell 0 (u := .int .i64 _) rfl rfl)) ?_
  refine la 1 ((18, .bool _) :: _) rfl ?_
  refine nn ?_
  refine cm_cond (by kernel_rfl) rfl (fun h15 => ?_) (fun h15 => ?_)
  ·refine cm_region ?_
   refine v_ 19 (fun _ _ => oF 1 1 rfl) ?_
   refine v_ 20 (fun _ c1 => oL (c1.cell 1 (u := .int .i64 _) rfl rfl)) ?_
   refine v_ 21 (fun _ _ => oF 1 1 rfl) ?_
   refine lm_store1 0 (v := .int .i64 _) (H' := [blkE _ _ [_, _], _, _]) (by kernel_rfl) rfl rfl (by kernel_rfl) rfl rfl (by kernel_rfl) rfl ?_
   refine lm_nil ?_
   exact xm_lnext () sq (sh [0, 2])
  ·refine cm_skip ?_
   exact xm_lnext () sq (sh [0, 2])
 intro s13 u14
 refine cm_seq ?_
 refine cm_held (ξ := Unit) (fun u20 => [(4, .pointer (some ⟨b7, 0, none⟩)), (5, .bool (decide (s9 < s13)))]) (fun u20 => [blkE b7 34 [.int .i64 s9, .int .i64 s13]]) [blkE b5 34 [.int .i64 s9, .int .i64 s13]] 8 (by kernel_rfl) (by rfl) (hsub [0] (by kernel_rfl) (by rfl)) ?_ ?_
 ·intro w22 c23
  refine wh_take 0 22 rfl (by kernel_rfl) (by kernel_rfl) (fun w2 c2 => (op_loadR [.int .i64 _, .int .i64 _] rfl (by kernel_rfl) (c2.cells 0 rfl rfl))) (hsub [0] (by kernel_rfl) rfl _ c23) ?_
  refine wh_take 1 23 rfl (by kernel_rfl) (by kernel_rfl) (fun w2 c2 => (op_fieldL (m := 0) (k := 0) rfl (by kernel_rfl) rfl)) (hsub [0] (by kernel_rfl) rfl _ c23) ?_
  refine wh_take 2 24 rfl (by kernel_rfl) (by kernel_rfl) (fun w2 c2 => (op_load rfl (by kernel_rfl) (c2.cell 0 (u := .int .i64 _) rfl rfl))) (hsub [0] (by kernel_rfl) rfl _ c23) ?_
  refine wh_take 3 25 rfl (by kernel_rfl) (by kernel_rfl) (fun w2 c2 => (op_fieldL (m := 1) (k := 1) rfl (by kernel_rfl) rfl)) (hsub [0] (by kernel_rfl) rfl _ c23) ?_
  refine wh_take 4 26 rfl (by kernel_rfl) (by kernel_rfl) (fun w2 c2 => (op_load rfl (by kernel_rfl) (c2.cell 0 (u := .int .i64 _) rfl rfl))) (hsub [0] (by kernel_rfl) rfl _ c23) ?_
  refine wh_take 5 27 rfl (by kernel_rfl) (by kernel_rfl) (fun w2 c2 => (op_lss rfl rfl)) (hsub [0] (by kernel_rfl) rfl _ c23) ?_
  refine wh_ready [6] (by kernel_rfl) rfl ⟨?_, trivial⟩
  refine ws_storeA 1 [.int .i64 _, .int .i64 _] [_, _] rfl (by kernel_rfl) rfl rfl (by kernel_rfl) rfl rfl (by kernel_rfl) rfl (H' := [_, blkE _ _ [_, _]]) rfl c23 ?_
  intro w24 c25
  refine ⟨(hsub [0] (by kernel_rfl) rfl _ c25), ?_⟩
  refine wh_take 7 5 rfl (by kernel_rfl) (by kernel_rfl) (fun w2 c2 => (op_assign (v := .bool _) rfl)) (hsub [0] (by kernel_rfl) rfl _ c25) ?_
  exact wh_done () (by kernel_rfl) sq (hsub [1] (by kernel_rfl) rfl _ c25)
 intro u20
 refine xm_next ?_
 refine cm_ret ?_
 exact xm_retCT rfl (by kernel_rfl) (show _ = Value.pointer (some ⟨_, 0, none⟩) from rfl) (by kernel_rfl) (fun w1 c1 => c1.cells 0 (ds := [.int .i64 _, .int .i64 _]) rfl rfl) (by kernel_rfl) (show _ = Value.bool _ from rfl) fun w1 c1 => ⟨(), rfl, hsub [] (by kernel_rfl) rfl w1 c1⟩
/-- recyclingref14.Check -/
def m_recyclingref14_Check (N : Nat) (p0 : (List ApiHousehold)) (p1 : Int) (p2 : (List ApiAssign)) : Option (Int) :=
 (if ((decide (p1 < 0)) || (decide (256 < p1))) = true then
  some ((1 : Int))
 else
  (if 256 < (List.length p0 : Int) then
   some ((8 : Int))
  else
   (andThen
    (loopM (fun (s70 : Int) =>
     (if s70 < (List.length p0 : Int) then
      ck ((0 : Int) ≤ s70 ∧ s70 < (List.length p0 : Int)) (
       Option.bind (m_recyclingref04_Valid N ((ix p0 s70).ID)) fun r74 => (if (!r74) = true then
        some (.done (.done ((5 : Int))))
       else
        ck ((0 : Int) ≤ s70 ∧ s70 < (List.length p0 : Int)) (
         ck ((!(decide ((ix p0 s70).Persons < 1))) = true → (0 : Int) ≤ s70 ∧ s70 < (List.length p0 : Int)) (
          (if ((decide ((ix p0 s70).Persons < 1)) || (decide (100 < (ix p0 s70).Persons))) = true then
           some (.done (.done ((1 : Int))))
          else
           ck (I64 (s70 + (1 : Int))) (
            some (.next (s70 + (1 : Int)))))))))
     else
      some (.done (.next ())))) N (0 : Int))
   fun (_s44 : Unit) =>
    (andThen
     (loopM (fun (s324 : Int) =>
      (if s324 < (List.length p0 : Int) then
       (andThen
        (loopM (fun (s364 : Int) =>
         (if s364 < s324 then
          ck ((0 : Int) ≤ s324 ∧ s324 < (List.length p0 : Int)) (
           ck ((0 : Int) ≤ s364 ∧ s364 < (List.length p0 : Int)) (
            (if ((ix p0 s324).ID) = ((ix p0 s364).ID) then
             some (.done (.done (.done (.done ((6 : Int))))))
            else
             ck (I64 (s364 + (1 : Int))) (
              some (.next (s364 + (1 : Int)))))))
         else
          some (.done (.next ())))) N (0 : Int))
       fun (_s348 : Unit) =>
        ck (I64 (s324 + (1 : Int))) (
         some (.next (s324 + (1 : Int)))))
      else
       some (.done (.next ())))) N (0 : Int))
    fun (_s226 : Unit) =>
     (if 512 < (List.length p2 : Int) then
      some ((8 : Int))
     else
      (andThen
       (loopM (fun (s455 : Int) =>
        (if s455 < (List.length p2 : Int) then
         ck ((0 : Int) ≤ s455 ∧ s455 < (List.length p2 : Int)) (
          ck ((!(decide ((ix p2 s455).Container < 0))) = true → (0 : Int) ≤ s455 ∧ s455 < (List.length p2 : Int)) (
           ck ((!((decide ((ix p2 s455).Container < 0)) || (decide (p1 ≤ (ix p2 s455).Container)))) = true → (0 : Int) ≤ s455 ∧ s455 < (List.length p2 : Int)) (
            ck ((!(((decide ((ix p2 s455).Container < 0)) || (decide (p1 ≤ (ix p2 s455).Container))) || (decide ((ix p2 s455).Household < 0)))) = true → (0 : Int) ≤ s455 ∧ s455 < (List.length p2 : Int)) (
             (if ((((decide ((ix p2 s455).Container < 0)) || (decide (p1 ≤ (ix p2 s455).Container))) || (decide ((ix p2 s455).Household < 0))) || (decide ((List.length p0 : Int) ≤ (ix p2 s455).Household))) = true then
              some (.done (.done ((7 : Int))))
             else
              ck ((0 : Int) ≤ s455 ∧ s455 < (List.length p2 : Int)) (
               Option.bind (m_recyclingref14_Window N ((ix p2 s455).When)) fun r467 => (if (!r467) = true then
                some (.done (.done ((1 : Int))))
               else
                ck (I64 (s455 + (1 : Int))) (
                 some (.next (s455 + (1 : Int)))))))))))
        else
         some (.done (.next ())))) N (0 : Int))
      fun (_s421 : Unit) =>
       (andThen
        (loopM (fun (s2093 : Int) =>
         (if s2093 < (List.length p2 : Int) then
          (andThen
           (loopM (fun (s2363 : Int) =>
            (if s2363 < s2093 then
             ck ((0 : Int) ≤ s2093 ∧ s2093 < (List.length p2 : Int)) (
              ck ((0 : Int) ≤ s2363 ∧ s2363 < (List.length p2 : Int)) (
               Option.bind (m_recyclingref14_common N ((ix p2 s2093).When) ((ix p2 s2363).When)) fun r2368 => ck (r2368.2 = true → (0 : Int) ≤ s2093 ∧ s2093 < (List.length p2 : Int)) (
                ck (r2368.2 = true → (0 : Int) ≤ s2363 ∧ s2363 < (List.length p2 : Int)) (
                 (if (r2368.2 && (decide ((ix p2 s2093).Container = (ix p2 s2363).Container))) = true then
                  some (.done (.done (.done (.done ((12 : Int))))))
                 else
                  ck (I64 (s2363 + (1 : Int))) (
                   some (.next (s2363 + (1 : Int)))))))))
            else
             some (.done (.next ())))) N (0 : Int))
          fun (_s2255 : Unit) =>
           ck (I64 (s2093 + (1 : Int))) (
            some (.next (s2093 + (1 : Int)))))
         else
          some (.done (.next ())))) N (0 : Int))
       fun (_s1443 : Unit) =>
        some ((0 : Int)))))))))
set_option maxHeartbeats 2000000 in
set_option maxRecDepth 20000 in
theorem m_recyclingref14_Check_ok (N : Nat) (w0 : World) (p0 : (List ApiHousehold)) (p1 : Int) (p2 : (List ApiAssign)) (A_p0 : Option Addr) (n_p0 c_p0 : Nat) (A_p2 : Option Addr) (n_p2 c_p2 : Nat) (hr_p0 : RdE w0 2 encApiHousehold A_p0 p0) (hz_p0 : SW A_p0 n_p0 c_p0 (List.length p0)) (hr_p2 : RdE w0 4 encApiAssign A_p2 p2) (hz_p2 : SW A_p2 n_p2 c_p2 (List.length p2)) (r : Int) (hr : m_recyclingref14_Check N p0 p1 p2 = some r) :
  Ret Tryz.prog 38 [.slice A_p0 n_p0 c_p0, .int .i64 p1, .slice A_p2 n_p2 c_p2] w0 (fun (r : Int) (_u : Unit) => .int .i64 r) (fun (_r : Int) (_u : Unit) => []) r := by
 refine calls_v (n := 161) r hr Tryz.func38 ?_
 unfold m_recyclingref14_Check
 refine sr ?_
 refine la 1 ((6, .int .i64 _) :: _) rfl ?_
 refine nn ?_
 refine cm_seq ?_
 refine cm_seq ?_
 refine cm_cutE [(20, .bool ((decide (p1 < 0)) || (decide (256 < p1))))] ?_ ?_
 ·refine qa 1 ((15, .int .i64 _) :: _) rfl ?_
  refine qd 16 (fun _ _ => op_lss rfl rfl) (fun h5 => ?_) (fun h5 => ?_)
  ·refine qa 4 ((20, .bool true) :: (19, undef) :: (18, undef) :: (17, .bool true) :: _) rfl ?_
   exact leaf_q (sub_out 6 _ rfl (by kernel_rfl) ⟨(congrArg Value.bool (by rw [decide_eq_true h5] <;> rfl)), trivial⟩)
  ·refine qa 4 ((20, .bool _) :: (19, .bool _) :: (18, .int .i64 _) :: (17, .bool false) :: _) rfl ?_
   exact leaf_q (sub_out 6 _ rfl (by kernel_rfl) ⟨(congrArg Value.bool (by rw [decide_eq_false h5] <;> rfl)), trivial⟩)
 refine xm_next ?_
 refine cm_condB (by kernel_rfl) rfl (fun h6 => ?_) (fun h6 => ?_)
 ·refine sr ?_
  refine la 1 ((6, .int .i64 _) :: _) rfl ?_
  refine nn ?_
  refine cm_ret ?_
  refine xm_thenR ?_
  exact xm_retT rfl (by kernel_rfl) (show _ = Value.int .i64 _ from rfl) fun w1 c1 => ⟨(), rfl, hsub [] (by kernel_rfl) rfl w1 c1⟩
 ·refine sk ?_
  refine cm_seq ?_
  refine sr ?_
  refine la 1 ((21, .slice _ _ _) :: _) rfl ?_
  refine v_ 22 (fun _ _ => op_lenN rfl (by kernel_rfl) hz_p0.2.2) ?_
  refine la 1 ((23, .bool _) :: _) rfl ?_
  refine nn ?_
  refine cm_cond (by kernel_rfl) rfl (fun h7 => ?_) (fun h7 => ?_)
  ·refine sr ?_
   refine la 1 ((6, .int .i64 _) :: _) rfl ?_
   refine nn ?_
   refine cm_ret ?_
   refine xm_thenR ?_
   exact xm_retT rfl (by kernel_rfl) (show _ = Value.int .i64 _ from rfl) fun w1 c1 => ⟨(), rfl, hsub [] (by kernel_rfl) rfl w1 c1⟩
  ·refine sk ?_
   refine cm_join (σ := Unit) (ξ := Unit) (fun s44 u45 => [(0, .slice A_p0 n_p0 c_p0), (1, .int .i64 p1), (2, .slice A_p2 n_p2 c_p2)]) (fun s44 u45 => []) ?_ ?_
   ·refine sr ?_
    refine la 1 ((7, .int .i64 _) :: _) rfl ?_
    refine nn ?_
    refine cm_block ?_
    refine cm_loop (σ := Int) (ξ := Unit) (fun s70 u71 => [(0, .slice A_p0 n_p0 c_p0), (1, .int .i64 p1), (2, .slice A_p2 n_p2 c_p2), (7, .int .i64 s70)]) (fun s70 u71 => []) () ?_ ?_ ?_
    ·exact sq
    ·exact sh []
    intro s70 u71
    refine cm_seq ?_
    refine sr ?_
    refine la 2 ((25, .slice _ _ _) :: (24, .int .i64 _) :: _) rfl ?_
    refine v_ 26 (fun _ _ => op_lenN rfl (by kernel_rfl) hz_p0.2.2) ?_
    refine la 1 ((27, .bool _) :: _) rfl ?_
    refine nn ?_
    refine cm_cond (by kernel_rfl) rfl (fun h72 => ?_) (fun h72 => ?_)
    ·refine sk ?_
     refine cm_seq ?_
     refine cm_block ?_
     refine cm_seq ?_
     refine sr ?_
     refine la 2 ((31, .int .i64 _) :: (30, .slice _ _ _) :: _) rfl ?_
     refine lm_ck (fun h73 => ?_)
     refine v_ 32 (fun _ c1 => oI 2 rfl rfl ((hr_p0.old c1).addr h73.1 h73.2) hz_p0.2.2 h73) ?_
     refine v_ 33 (fun _ _ => op_field0 rfl (by kernel_rfl)) ?_
     refine v_ 34 (fun _ c1 => oL (v := .string ((ix p0 s70).ID)) ((hr_p0.old c1).cell0 h73.1 h73.2 rfl)) ?_
     refine lm_call 35 (V := (fun (r : Bool) (_u : Unit) => .bool r)) (HR := (fun (_r : Bool) (_u : Unit) => [])) (by kernel_rfl) (fun w1 => op_call (by kernel_rfl)) (fun r1 hr1 w1 c1 => m_recyclingref04_Valid_ok N w1 ((ix p0 s70).ID)  r1 hr1) ?_
     intro r74 u75
     refine la 1 ((36, .bool _) :: _) rfl ?_
     refine nn ?_
     refine cm_condB (by kernel_rfl) rfl (fun h76 => ?_) (fun h76 => ?_)
     ·refine sr ?_
      refine la 1 ((6, .int .i64 _) :: _) rfl ?_
      refine nn ?_
      refine cm_ret ?_
      refine xm_thenR ?_
      refine xm_inR ?_
      refine xm_thenR ?_
      refine xm_lret ?_
      refine xm_inR ?_
      refine xm_lret ?_
      exact xm_retT rfl (by kernel_rfl) (show _ = Value.int .i64 _ from rfl) fun w1 c1 => ⟨(), rfl, hsub [] (by kernel_rfl) rfl w1 c1⟩
     ·refine sk ?_
      refine cm_seq ?_
      refine cm_ck (fun h77 => ?_)
      refine cm_ck (fun h78 => ?_)
      refine cm_cutE [(50, .bool ((decide ((ix p0 s70).Persons < 1)) || (decide (100 < (ix p0 s70).Persons))))] ?_ ?_
      ·refine qa 2 ((38, .int .i64 _) :: (37, .slice _ _ _) :: _) rfl ?_
       refine q_ 39 (fun _ c1 => oI 2 rfl rfl ((hr_p0.old c1).addr h77.1 h77.2) hz_p0.2.2 h77) ?_
       refine q_ 40 (fun _ _ => op_field (m := 1) rfl (by kernel_rfl)) ?_
       refine q_ 41 (fun _ c1 => oL (v := .int .i64 ((ix p0 s70).Persons)) ((hr_p0.old c1).cell (j := 1) h77.1 h77.2 rfl)) ?_
       refine qd 42 (fun _ _ => op_lss rfl rfl) (fun h79 => ?_) (fun h79 => ?_)
       ·refine qa 8 ((50, .bool true) :: (49, undef) :: (48, undef) :: (47, undef) :: (46, undef) :: (45, undef) :: (44, undef) :: (43, .bool true) :: _) rfl ?_
        exact leaf_q (sub_out 14 _ rfl (by kernel_rfl) ⟨(congrArg Value.bool (by rw [decide_eq_true h79] <;> rfl)), trivial⟩)
       ·refine qa 3 ((45, .int .i64 _) :: (44, .slice _ _ _) :: (43, .bool false) :: _) rfl ?_
        refine q_ 46 (fun _ c1 => oI 2 rfl rfl ((hr_p0.old c1).addr (h78 (by rw [decide_eq_false h79] <;> rfl)).1 (h78 (by rw [decide_eq_false h79] <;> rfl)).2) hz_p0.2.2 (h78 (by rw [decide_eq_false h79] <;> rfl))) ?_
        refine q_ 47 (fun _ _ => op_field (m := 1) rfl (by kernel_rfl)) ?_
        refine q_ 48 (fun _ c1 => oL (v := .int .i64 ((ix p0 s70).Persons)) ((hr_p0.old c1).cell (j := 1) (h78 (by rw [decide_eq_false h79] <;> rfl)).1 (h78 (by rw [decide_eq_false h79] <;> rfl)).2 rfl)) ?_
        refine qa 2 ((50, .bool _) :: (49, .bool _) :: _) rfl ?_
        exact leaf_q (sub_out 14 _ rfl (by kernel_rfl) ⟨(congrArg Value.bool (by rw [decide_eq_false h79] <;> rfl)), trivial⟩)
      refine xm_next ?_
      refine cm_condB (by kernel_rfl) rfl (fun h80 => ?_) (fun h80 => ?_)
      ·refine sr ?_
       refine la 1 ((6, .int .i64 _) :: _) rfl ?_
       refine nn ?_
       refine cm_ret ?_
       refine xm_inR ?_
       refine xm_thenR ?_
       refine xm_lret ?_
       refine xm_inR ?_
       refine xm_lret ?_
       exact xm_retT rfl (by kernel_rfl) (show _ = Value.int .i64 _ from rfl) fun w1 c1 => ⟨(), rfl, hsub [] (by kernel_rfl) rfl w1 c1⟩
      ·refine cm_skip ?_
       refine xm_inN ?_
       refine xm_next ?_
       refine cm_region ?_
       refine la 1 ((28, .int .i64 _) :: _) rfl ?_
       refine lm_ck (fun h81 => ?_)
       refine v_ 29 (fun _ _ => op_add rfl rfl h81) ?_
       refine la 1 ((7, .int .i64 _) :: _) rfl ?_
       refine lm_nil ?_
       exact xm_lnext () sq (sh [])
    ·refine cm_exit ?_
     refine xm_thenE ?_
     refine xm_lexit ?_
     refine xm_here ?_
     exact xm_lnext () sq (sh [])
   intro s44 u45
   refine cm_join (σ := Unit) (ξ := Unit) (fun s226 u227 => [(0, .slice A_p0 n_p0 c_p0), (1, .int .i64 p1), (2, .slice A_p2 n_p2 c_p2)]) (fun s226 u227 => []) ?_ ?_
   ·refine sr ?_
    refine la 1 ((8, .int .i64 _) :: _) rfl ?_
    refine nn ?_
    refine cm_block ?_
    refine cm_loop (σ := Int) (ξ := Unit) (fun s324 u325 => [(0, .slice A_p0 n_p0 c_p0), (1, .int .i64 p1), (2, .slice A_p2 n_p2 c_p2), (8, .int .i64 s324)]) (fun s324 u325 => []) () ?_ ?_ ?_
    ·exact sq
    ·exact sh []
    intro s324 u325
    refine cm_seq ?_
    refine sr ?_
    refine la 2 ((52, .slice _ _ _) :: (51, .int .i64 _) :: _) rfl ?_
    refine v_ 53 (fun _ _ => op_lenN rfl (by kernel_rfl) hz_p0.2.2) ?_
    refine la 1 ((54, .bool _) :: _) rfl ?_
    refine nn ?_
    refine cm_cond (by kernel_rfl) rfl (fun h326 => ?_) (fun h326 => ?_)
    ·refine sk ?_
     refine cm_join (σ := Unit) (ξ := Unit) (fun s348 u349 => [(0, .slice A_p0 n_p0 c_p0), (1, .int .i64 p1), (2, .slice A_p2 n_p2 c_p2), (8, .int .i64 s324)]) (fun s348 u349 => []) ?_ ?_
     ·refine cm_block ?_
      refine sr ?_
      refine la 1 ((9, .int .i64 _) :: _) rfl ?_
      refine nn ?_
      refine cm_block ?_
      refine cm_loop (σ := Int) (ξ := Unit) (fun s364 u365 => [(0, .slice A_p0 n_p0 c_p0), (1, .int .i64 p1), (2, .slice A_p2 n_p2 c_p2), (8, .int .i64 s324), (9, .int .i64 s364)]) (fun s364 u365 => []) () ?_ ?_ ?_
      ·exact sq
      ·exact sh []
      intro s364 u365
      refine cm_seq ?_
      refine sr ?_
      refine la 3 ((59, .bool _) :: (58, .int .i64 _) :: (57, .int .i64 _) :: _) rfl ?_
      refine nn ?_
      refine cm_cond (by kernel_rfl) rfl (fun h366 => ?_) (fun h366 => ?_)
      ·refine sk ?_
       refine cm_seq ?_
       refine cm_block ?_
       refine cm_seq ?_
       refine cm_ck (fun h367 => ?_)
       refine cm_ck (fun h368 => ?_)
       refine cm_drawn [(72, .bool (decide (((ix p0 s324).ID) = ((ix p0 s364).ID))))] (by kernel_rfl) (by kernel_rfl) ?_ ?_
       ·refine qa 2 ((63, .int .i64 _) :: (62, .slice _ _ _) :: _) rfl ?_
        refine q_ 64 (fun _ c1 => oI 2 rfl rfl ((hr_p0.old c1).addr h367.1 h367.2) hz_p0.2.2 h367) ?_
        refine q_ 65 (fun _ _ => op_field0 rfl (by kernel_rfl)) ?_
        refine q_ 66 (fun _ c1 => oL (v := .string ((ix p0 s324).ID)) ((hr_p0.old c1).cell0 h367.1 h367.2 rfl)) ?_
        refine qa 2 ((68, .int .i64 _) :: (67, .slice _ _ _) :: _) rfl ?_
        refine q_ 69 (fun _ c1 => oI 2 rfl rfl ((hr_p0.old c1).addr h368.1 h368.2) hz_p0.2.2 h368) ?_
        refine q_ 70 (fun _ _ => op_field0 rfl (by kernel_rfl)) ?_
        refine q_ 71 (fun _ c1 => oL (v := .string ((ix p0 s364).ID)) ((hr_p0.old c1).cell0 h368.1 h368.2 rfl)) ?_
        refine q_ 72 (fun _ _ => op_eqlS rfl rfl) ?_
        exact lq 11
       refine xm_next ?_
       refine cm_cond (by kernel_rfl) rfl (fun h369 => ?_) (fun h369 => ?_)
       ·refine sr ?_
        refine la 1 ((6, .int .i64 _) :: _) rfl ?_
        refine nn ?_
        refine cm_ret ?_
        refine xm_inR ?_
        refine xm_thenR ?_
        refine xm_lret ?_
        refine xm_inR ?_
        refine xm_inR ?_
        refine xm_lret ?_
        refine xm_lret ?_
        refine xm_inR ?_
        refine xm_lret ?_
        exact xm_retT rfl (by kernel_rfl) (show _ = Value.int .i64 _ from rfl) fun w1 c1 => ⟨(), rfl, hsub [] (by kernel_rfl) rfl w1 c1⟩
       ·refine cm_skip ?_
        refine xm_inN ?_
        refine xm_next ?_
        refine cm_region ?_
        refine la 1 ((60, .int .i64 _) :: _) rfl ?_
        refine lm_ck (fun h370 => ?_)
        refine v_ 61 (fun _ _ => op_add rfl rfl h370) ?_
        refine la 1 ((9, .int .i64 _) :: _) rfl ?_
        refine lm_nil ?_
        exact xm_lnext () sq (sh [])
      ·refine cm_exit ?_
       refine xm_thenE ?_
       refine xm_lexit ?_
       refine xm_here ?_
       refine xm_inN ?_
       exact xm_lnext () sq (sh [])
     intro s348 u349
     refine cm_region ?_
     refine la 1 ((55, .int .i64 _) :: _) rfl ?_
     refine lm_ck (fun h371 => ?_)
     refine v_ 56 (fun _ _ => op_add rfl rfl h371) ?_
     refine la 1 ((8, .int .i64 _) :: _) rfl ?_
     refine lm_nil ?_
     exact xm_lnext () sq (sh [])
    ·refine cm_exit ?_
     refine xm_thenE ?_
     refine xm_lexit ?_
     refine xm_here ?_
     exact xm_lnext () sq (sh [])
   intro s226 u227
   refine cm_seq ?_
   refine sr ?_
   refine la 1 ((73, .slice _ _ _) :: _) rfl ?_
   refine v_ 74 (fun _ _ => op_lenN rfl (by kernel_rfl) hz_p2.2.2) ?_
   refine la 1 ((75, .bool _) :: _) rfl ?_
   refine nn ?_
   refine cm_cond (by kernel_rfl) rfl (fun h372 => ?_) (fun h372 => ?_)
   ·refine sr ?_
    refine la 1 ((6, .int .i64 _) :: _) rfl ?_
    refine nn ?_
    refine cm_ret ?_
    refine xm_thenR ?_
    exact xm_retT rfl (by kernel_rfl) (show _ = Value.int .i64 _ from rfl) fun w1 c1 => ⟨(), rfl, hsub [] (by kernel_rfl) rfl w1 c1⟩
   ·refine sk ?_
    refine cm_join (σ := Unit) (ξ := Unit) (fun s421 u422 => [(2, .slice A_p2 n_p2 c_p2)]) (fun s421 u422 => []) ?_ ?_
    ·refine sr ?_
     refine la 1 ((10, .int .i64 _) :: _) rfl ?_
     refine nn ?_
     refine cm_block ?_
     refine cm_loop (σ := Int) (ξ := Unit) (fun s455 u456 => [(0, .slice A_p0 n_p0 c_p0), (1, .int .i64 p1), (2, .slice A_p2 n_p2 c_p2), (10, .int .i64 s455)]) (fun s455 u456 => []) () ?_ ?_ ?_
     ·exact sq
     ·exact sh []
     intro s455 u456
     refine cm_seq ?_
     refine sr ?_
     refine la 2 ((77, .slice _ _ _) :: (76, .int .i64 _) :: _) rfl ?_
     refine v_ 78 (fun _ _ => op_lenN rfl (by kernel_rfl) hz_p2.2.2) ?_
     refine la 1 ((79, .bool _) :: _) rfl ?_
     refine nn ?_
     refine cm_cond (by kernel_rfl) rfl (fun h457 => ?_) (fun h457 => ?_)
     ·refine sk ?_
      refine cm_seq ?_
      refine cm_block ?_
      refine cm_seq ?_
      refine cm_seq ?_
      refine cm_ck (fun h458 => ?_)
      refine cm_ck (fun h459 => ?_)
      refine cm_ck (fun h460 => ?_)
      refine cm_ck (fun h461 => ?_)
      refine cm_cutE [(114, .bool ((((decide ((ix p2 s455).Container < 0)) || (decide (p1 ≤ (ix p2 s455).Container))) || (decide ((ix p2 s455).Household < 0))) || (decide ((List.length p0 : Int) ≤ (ix p2 s455).Household))))] ?_ ?_
      ·refine qa 2 ((83, .int .i64 _) :: (82, .slice _ _ _) :: _) rfl ?_
       refine q_ 84 (fun _ c1 => oI 4 rfl rfl ((hr_p2.old c1).addr h458.1 h458.2) hz_p2.2.2 h458) ?_
       refine q_ 85 (fun _ _ => op_field0 rfl (by kernel_rfl)) ?_
       refine q_ 86 (fun _ c1 => oL (v := .int .i64 ((ix p2 s455).Container)) ((hr_p2.old c1).cell0 h458.1 h458.2 rfl)) ?_
       refine qd 87 (fun _ _ => op_lss rfl rfl) (fun h462 => ?_) (fun h462 => ?_)
       ·refine qa 27 ((114, .bool true) :: (113, undef) :: (112, undef) :: (111, undef) :: (110, undef) :: (109, undef) :: (108, undef) :: (107, undef) :: (106, undef) :: (105, .bool true) :: (104, .bool true) :: (103, undef) :: (102, undef) :: (101, undef) :: (100, undef) :: (99, undef) :: (98, undef) :: (97, .bool true) :: (96, .bool true) :: (95, undef) :: (94, undef) :: (93, undef) :: (92, undef) :: (91, undef) :: (90, undef) :: (89, undef) :: (88, .bool true) :: _) rfl ?_
        exact leaf_q (sub_out 33 _ rfl (by kernel_rfl) ⟨(congrArg Value.bool (by rw [decide_eq_true h462] <;> rfl)), trivial⟩)
       ·refine qa 3 ((90, .int .i64 _) :: (89, .slice _ _ _) :: (88, .bool false) :: _) rfl ?_
        refine q_ 91 (fun _ c1 => oI 4 rfl rfl ((hr_p2.old c1).addr (h459 (by rw [decide_eq_false h462] <;> rfl)).1 (h459 (by rw [decide_eq_false h462] <;> rfl)).2) hz_p2.2.2 (h459 (by rw [decide_eq_false h462] <;> rfl))) ?_
        refine q_ 92 (fun _ _ => op_field0 rfl (by kernel_rfl)) ?_
        refine q_ 93 (fun _ c1 => oL (v := .int .i64 ((ix p2 s455).Container)) ((hr_p2.old c1).cell0 (h459 (by rw [decide_eq_false h462] <;> rfl)).1 (h459 (by rw [decide_eq_false h462] <;> rfl)).2 rfl)) ?_
        refine qa 1 ((94, .int .i64 _) :: _) rfl ?_
        refine qd 95 (fun _ _ => op_geq rfl rfl) (fun h463 => ?_) (fun h463 => ?_)
        ·refine qa 19 ((114, .bool true) :: (113, undef) :: (112, undef) :: (111, undef) :: (110, undef) :: (109, undef) :: (108, undef) :: (107, undef) :: (106, undef) :: (105, .bool true) :: (104, .bool true) :: (103, undef) :: (102, undef) :: (101, undef) :: (100, undef) :: (99, undef) :: (98, undef) :: (97, .bool true) :: (96, .bool true) :: _) rfl ?_
         exact leaf_q (sub_out 33 _ rfl (by kernel_rfl) ⟨(congrArg Value.bool (by rw [decide_eq_false h462, decide_eq_true h463] <;> rfl)), trivial⟩)
        ·refine qa 4 ((99, .int .i64 _) :: (98, .slice _ _ _) :: (97, .bool false) :: (96, .bool false) :: _) rfl ?_
         refine q_ 100 (fun _ c1 => oI 4 rfl rfl ((hr_p2.old c1).addr (h460 (by rw [decide_eq_false h462, decide_eq_false h463] <;> rfl)).1 (h460 (by rw [decide_eq_false h462, decide_eq_false h463] <;> rfl)).2) hz_p2.2.2 (h460 (by rw [decide_eq_false h462, decide_eq_false h463] <;> rfl))) ?_
         refine q_ 101 (fun _ _ => op_field (m := 1) rfl (by kernel_rfl)) ?_
         refine q_ 102 (fun _ c1 => oL (v := .int .i64 ((ix p2 s455).Household)) ((hr_p2.old c1).cell (j := 1) (h460 (by rw [decide_eq_false h462, decide_eq_false h463] <;> rfl)).1 (h460 (by rw [decide_eq_false h462, decide_eq_false h463] <;> rfl)).2 rfl)) ?_
         refine qd 103 (fun _ _ => op_lss rfl rfl) (fun h464 => ?_) (fun h464 => ?_)
         ·refine qa 11 ((114, .bool true) :: (113, undef) :: (112, undef) :: (111, undef) :: (110, undef) :: (109, undef) :: (108, undef) :: (107, undef) :: (106, undef) :: (105, .bool true) :: (104, .bool true) :: _) rfl ?_
          exact leaf_q (sub_out 33 _ rfl (by kernel_rfl) ⟨(congrArg Value.bool (by rw [decide_eq_false h462, decide_eq_false h463, decide_eq_true h464] <;> rfl)), trivial⟩)
         ·refine qa 4 ((107, .int .i64 _) :: (106, .slice _ _ _) :: (105, .bool false) :: (104, .bool false) :: _) rfl ?_
          refine q_ 108 (fun _ c1 => oI 4 rfl rfl ((hr_p2.old c1).addr (h461 (by rw [decide_eq_false h462, decide_eq_false h463, decide_eq_false h464] <;> rfl)).1 (h461 (by rw [decide_eq_false h462, decide_eq_false h463, decide_eq_false h464] <;> rfl)).2) hz_p2.2.2 (h461 (by rw [decide_eq_false h462, decide_eq_false h463, decide_eq_false h464] <;> rfl))) ?_
          refine q_ 109 (fun _ _ => op_field (m := 1) rfl (by kernel_rfl)) ?_
          refine q_ 110 (fun _ c1 => oL (v := .int .i64 ((ix p2 s455).Household)) ((hr_p2.old c1).cell (j := 1) (h461 (by rw [decide_eq_false h462, decide_eq_false h463, decide_eq_false h464] <;> rfl)).1 (h461 (by rw [decide_eq_false h462, decide_eq_false h463, decide_eq_false h464] <;> rfl)).2 rfl)) ?_
          refine qa 1 ((111, .slice _ _ _) :: _) rfl ?_
          refine q_ 112 (fun _ _ => op_lenN rfl (by kernel_rfl) hz_p0.2.2) ?_
          refine qa 2 ((114, .bool _) :: (113, .bool _) :: _) rfl ?_
          exact leaf_q (sub_out 33 _ rfl (by kernel_rfl) ⟨(congrArg Value.bool (by rw [decide_eq_false h462, decide_eq_false h463, decide_eq_false h464] <;> rfl)), trivial⟩)
      refine xm_next ?_
      refine cm_condB (by kernel_rfl) rfl (fun h465 => ?_) (fun h465 => ?_)
      ·refine sr ?_
       refine la 1 ((6, .int .i64 _) :: _) rfl ?_
       refine nn ?_
       refine cm_ret ?_
       refine xm_thenR ?_
       refine xm_inR ?_
       refine xm_thenR ?_
       refine xm_lret ?_
       refine xm_inR ?_
       refine xm_lret ?_
       exact xm_retT rfl (by kernel_rfl) (show _ = Value.int .i64 _ from rfl) fun w1 c1 => ⟨(), rfl, hsub [] (by kernel_rfl) rfl w1 c1⟩
      ·refine sk ?_
       refine sr ?_
       refine la 2 ((116, .int .i64 _) :: (115, .slice _ _ _) :: _) rfl ?_
       refine lm_ck (fun h466 => ?_)
       refine v_ 117 (fun _ c1 => oI 4 rfl rfl ((hr_p2.old c1).addr h466.1 h466.2) hz_p2.2.2 h466) ?_
       refine v_ 118 (fun _ _ => op_field (m := 2) rfl (by kernel_rfl)) ?_
       refine v_ 119 (fun _ c1 => oR [.int .i64 ((ix p2 s455).When.From), .int .i64 ((ix p2 s455).When.To)] ((hr_p2.old c1).part (o := 2) h466.1 h466.2 rfl)) ?_
       refine lm_call 120 (V := (fun (r : Bool) (_u : Unit) => .bool r)) (HR := (fun (_r : Bool) (_u : Unit) => [])) (by kernel_rfl) (fun w1 => op_call (by kernel_rfl)) (fun r1 hr1 w1 c1 => m_recyclingref14_Window_ok N w1 ((ix p2 s455).When)  r1 hr1) ?_
       intro r467 u468
       refine la 1 ((121, .bool _) :: _) rfl ?_
       refine nn ?_
       refine cm_condB (by kernel_rfl) rfl (fun h469 => ?_) (fun h469 => ?_)
       ·refine sr ?_
        refine la 1 ((6, .int .i64 _) :: _) rfl ?_
        refine nn ?_
        refine cm_ret ?_
        refine xm_inR ?_
        refine xm_thenR ?_
        refine xm_lret ?_
        refine xm_inR ?_
        refine xm_lret ?_
        exact xm_retT rfl (by kernel_rfl) (show _ = Value.int .i64 _ from rfl) fun w1 c1 => ⟨(), rfl, hsub [] (by kernel_rfl) rfl w1 c1⟩
       ·refine cm_skip ?_
        refine xm_inN ?_
        refine xm_next ?_
        refine cm_region ?_
        refine la 1 ((80, .int .i64 _) :: _) rfl ?_
        refine lm_ck (fun h470 => ?_)
        refine v_ 81 (fun _ _ => op_add rfl rfl h470) ?_
        refine la 1 ((10, .int .i64 _) :: _) rfl ?_
        refine lm_nil ?_
        exact xm_lnext () sq (sh [])
     ·refine cm_exit ?_
      refine xm_thenE ?_
      refine xm_lexit ?_
      refine xm_here ?_
      exact xm_lnext () sq (sh [])
    intro s421 u422
    refine cm_join (σ := Unit) (ξ := Unit) (fun s1443 u1444 => []) (fun s1443 u1444 => []) ?_ ?_
    ·refine sr ?_
     refine la 1 ((11, .int .i64 _) :: _) rfl ?_
     refine nn ?_
     refine cm_block ?_
     refine cm_loop (σ := Int) (ξ := Unit) (fun s2093 u2094 => [(2, .slice A_p2 n_p2 c_p2), (11, .int .i64 s2093)]) (fun s2093 u2094 => []) () ?_ ?_ ?_
     ·exact sq
     ·exact sh []
     intro s2093 u2094
     refine cm_seq ?_
     refine sr ?_
     refine la 2 ((123, .slice _ _ _) :: (122, .int .i64 _) :: _) rfl ?_
     refine v_ 124 (fun _ _ => op_lenN rfl (by kernel_rfl) hz_p2.2.2) ?_
     refine la 1 ((125, .bool _) :: _) rfl ?_
     refine nn ?_
     refine cm_cond (by kernel_rfl) rfl (fun h2095 => ?_) (fun h2095 => ?_)
     ·refine sk ?_
      refine cm_join (σ := Unit) (ξ := Unit) (fun s2255 u2256 => [(2, .slice A_p2 n_p2 c_p2), (11, .int .i64 s2093)]) (fun s2255 u2256 => []) ?_ ?_
      ·refine cm_block ?_
       refine sr ?_
       refine la 1 ((12, .int .i64 _) :: _) rfl ?_
       refine nn ?_
       refine cm_block ?_
       refine cm_loop (σ := Int) (ξ := Unit) (fun s2363 u2364 => [(2, .slice A_p2 n_p2 c_p2), (11, .int .i64 s2093), (12, .int .i64 s2363)]) (fun s2363 u2364 => []) () ?_ ?_ ?_
       ·exact sq
       ·exact sh []
       intro s2363 u2364
       refine cm_seq ?_
       refine sr ?_
       refine la 3 ((130, .bool _) :: (129, .int .i64 _) :: (128, .int .i64 _) :: _) rfl ?_
       refine nn ?_
       refine cm_cond (by kernel_rfl) rfl (fun h2365 => ?_) (fun h2365 => ?_)
       ·refine sk ?_
        refine cm_seq ?_
        refine cm_block ?_
        refine cm_seq ?_
        refine cm_ck (fun h2366 => ?_)
        refine cm_ck (fun h2367 => ?_)
        refine cm_bind fun r2368 h2369 => ?_
        refine cm_held (ξ := Unit) (fun u2391 => [(2, .slice A_p2 n_p2 c_p2), (11, .int .i64 s2093), (12, .int .i64 s2363), (14, .bool r2368.2)]) (fun u2391 => []) [] 17 (by kernel_rfl) (by rfl) (hsub [] (by kernel_rfl) (by rfl)) ?_ ?_
        ·intro w2393 c2394
         refine wh_take 0 134 rfl (by kernel_rfl) (by kernel_rfl) (fun w2 c2 => (op_move (v := .slice _ _ _) rfl)) (hsub [] (by kernel_rfl) rfl _ c2394) ?_
         refine wh_take 1 135 rfl (by kernel_rfl) (by kernel_rfl) (fun w2 c2 => (op_move (v := .int .i64 _) rfl)) (hsub [] (by kernel_rfl) rfl _ c2394) ?_
         refine wh_take 2 136 rfl (by kernel_rfl) (by kernel_rfl) (fun w2 c2 => (op_indexA 4 rfl rfl (by kernel_rfl) ((hr_p2.old c2).addr h2366.1 h2366.2) hz_p2.2.2 h2366.1 h2366.2)) (hsub [] (by kernel_rfl) rfl _ c2394) ?_
         refine wh_take 3 137 rfl (by kernel_rfl) (by kernel_rfl) (fun w2 c2 => (op_field (m := 2) rfl (by kernel_rfl))) (hsub [] (by kernel_rfl) rfl _ c2394) ?_
         refine wh_take 4 138 rfl (by kernel_rfl) (by kernel_rfl) (fun w2 c2 => (op_loadR [.int .i64 ((ix p2 s2093).When.From), .int .i64 ((ix p2 s2093).When.To)] rfl (by kernel_rfl) ((hr_p2.old c2).part (o := 2) h2366.1 h2366.2 rfl))) (hsub [] (by kernel_rfl) rfl _ c2394) ?_
         refine wh_take 5 139 rfl (by kernel_rfl) (by kernel_rfl) (fun w2 c2 => (op_move (v := .slice _ _ _) rfl)) (hsub [] (by kernel_rfl) rfl _ c2394) ?_
         refine wh_take 6 140 rfl (by kernel_rfl) (by kernel_rfl) (fun w2 c2 => (op_move (v := .int .i64 _) rfl)) (hsub [] (by kernel_rfl) rfl _ c2394) ?_
         refine wh_take 7 141 rfl (by kernel_rfl) (by kernel_rfl) (fun w2 c2 => (op_indexA 4 rfl rfl (by kernel_rfl) ((hr_p2.old c2).addr h2367.1 h2367.2) hz_p2.2.2 h2367.1 h2367.2)) (hsub [] (by kernel_rfl) rfl _ c2394) ?_
         refine wh_take 8 142 rfl (by kernel_rfl) (by kernel_rfl) (fun w2 c2 => (op_field (m := 2) rfl (by kernel_rfl))) (hsub [] (by kernel_rfl) rfl _ c2394) ?_
         refine wh_take 9 143 rfl (by kernel_rfl) (by kernel_rfl) (fun w2 c2 => (op_loadR [.int .i64 ((ix p2 s2363).When.From), .int .i64 ((ix p2 s2363).When.To)] rfl (by kernel_rfl) ((hr_p2.old c2).part (o := 2) h2367.1 h2367.2 rfl))) (hsub [] (by kernel_rfl) rfl _ c2394) ?_
         refine wh_ready [10, 14] (by kernel_rfl) rfl ⟨?_, ?_, trivial⟩
         ·refine ws_call 144 rfl (by kernel_rfl) (op_call (by kernel_rfl)) (m_recyclingref14_common_ok N _ ((ix p2 s2093).When) ((ix p2 s2363).When)  r2368 h2369) ?_
          rintro x w2396 ⟨u2395, rfl, c2397⟩
          replace c2397 := c2394.call c2397
          refine ⟨_, rfl, (hsub [] (by kernel_rfl) rfl _ c2397), ?_⟩
          refine wh_take 11 133 rfl (by kernel_rfl) (by kernel_rfl) (fun w2 c2 => (op_move (v := .tuple _) rfl)) (hsub [] (by kernel_rfl) rfl _ c2397) ?_
          refine wh_take 12 145 rfl (by kernel_rfl) (by kernel_rfl) (fun w2 c2 => (op_extract (v := .agg _) rfl rfl)) (hsub [] (by kernel_rfl) rfl _ c2397) ?_
          refine wh_take 13 146 rfl (by kernel_rfl) (by kernel_rfl) (fun w2 c2 => (op_extract (v := .bool _) rfl rfl)) (hsub [] (by kernel_rfl) rfl _ c2397) ?_
          refine wh_ready [14] (by kernel_rfl) rfl ⟨?_, trivial⟩
          refine ws_alloc 13 [.int .i64 0, .int .i64 0] (v := .agg #[.int .i64 0, .int .i64 0]) rfl (by kernel_rfl) (by kernel_rfl) rfl c2397 ?_
          intro b2398 w2399 c2400
          refine ⟨(hsub [] (by kernel_rfl) rfl _ c2400), ?_⟩
          refine wh_ready [15] (by kernel_rfl) rfl ⟨?_, trivial⟩
          refine ws_storeA 0 [.int .i64 _, .int .i64 _] [_, _] rfl (by kernel_rfl) rfl rfl (by kernel_rfl) rfl rfl (by kernel_rfl) rfl (H' := [blkE _ _ [_, _]]) rfl c2400 ?_
          intro w2401 c2402
          refine ⟨(hsub [] (by kernel_rfl) rfl _ c2402), ?_⟩
          refine wh_take 16 14 rfl (by kernel_rfl) (by kernel_rfl) (fun w2 c2 => (op_assign (v := .bool _) rfl)) (hsub [] (by kernel_rfl) rfl _ c2402) ?_
          exact wh_done () (by kernel_rfl) sq (hsub [] (by kernel_rfl) rfl _ c2402)
         ·refine ws_alloc 13 [.int .i64 0, .int .i64 0] (v := .agg #[.int .i64 0, .int .i64 0]) rfl (by kernel_rfl) (by kernel_rfl) rfl c2394 ?_
          intro b2403 w2404 c2405
          refine ⟨(hsub [] (by kernel_rfl) rfl _ c2405), ?_⟩
          refine wh_ready [10] (by kernel_rfl) rfl ⟨?_, trivial⟩
          refine ws_call 144 rfl (by kernel_rfl) (op_call (by kernel_rfl)) (m_recyclingref14_common_ok N _ ((ix p2 s2093).When) ((ix p2 s2363).When)  r2368 h2369) ?_
          rintro x w2407 ⟨u2406, rfl, c2408⟩
          replace c2408 := c2405.call c2408
          refine ⟨_, rfl, (hsub [] (by kernel_rfl) rfl _ c2408), ?_⟩
          refine wh_take 11 133 rfl (by kernel_rfl) (by kernel_rfl) (fun w2 c2 => (op_move (v := .tuple _) rfl)) (hsub [] (by kernel_rfl) rfl _ c2408) ?_
          refine wh_take 12 145 rfl (by kernel_rfl) (by kernel_rfl) (fun w2 c2 => (op_extract (v := .agg _) rfl rfl)) (hsub [] (by kernel_rfl) rfl _ c2408) ?_
          refine wh_take 13 146 rfl (by kernel_rfl) (by kernel_rfl) (fun w2 c2 => (op_extract (v := .bool _) rfl rfl)) (hsub [] (by kernel_rfl) rfl _ c2408) ?_
          refine wh_ready [15] (by kernel_rfl) rfl ⟨?_, trivial⟩
          refine ws_storeA 0 [.int .i64 _, .int .i64 _] [_, _] rfl (by kernel_rfl) rfl rfl (by kernel_rfl) rfl rfl (by kernel_rfl) rfl (H' := [blkE _ _ [_, _]]) rfl c2408 ?_
          intro w2409 c2410
          refine ⟨(hsub [] (by kernel_rfl) rfl _ c2410), ?_⟩
          refine wh_take 16 14 rfl (by kernel_rfl) (by kernel_rfl) (fun w2 c2 => (op_assign (v := .bool _) rfl)) (hsub [] (by kernel_rfl) rfl _ c2410) ?_
          exact wh_done () (by kernel_rfl) sq (hsub [] (by kernel_rfl) rfl _ c2410)
        intro u2391
        refine xm_next ?_
        refine cm_seq ?_
        refine cm_ck (fun h2411 => ?_)
        refine cm_ck (fun h2412 => ?_)
        refine cm_drawn [(160, .bool (r2368.2 && (decide ((ix p2 s2093).Container = (ix p2 s2363).Container))))] (by kernel_rfl) (by kernel_rfl) ?_ ?_
        ·refine wq_bool 147 (by kernel_rfl) (fun w1 c1 => (op_move (v := .bool _) rfl)) (fun h2413 => ?_) (fun h2413 => ?_)
         ·refine qa 3 ((150, .int .i64 _) :: (149, .slice _ _ _) :: (148, .bool true) :: _) rfl ?_
          refine q_ 151 (fun _ c1 => oI 4 rfl rfl ((hr_p2.old c1).addr (h2411 (by rw [h2413] <;> rfl)).1 (h2411 (by rw [h2413] <;> rfl)).2) hz_p2.2.2 (h2411 (by rw [h2413] <;> rfl))) ?_
          refine q_ 152 (fun _ _ => op_field0 rfl (by kernel_rfl)) ?_
          refine q_ 153 (fun _ c1 => oL (v := .int .i64 ((ix p2 s2093).Container)) ((hr_p2.old c1).cell0 (h2411 (by rw [h2413] <;> rfl)).1 (h2411 (by rw [h2413] <;> rfl)).2 rfl)) ?_
          refine qa 2 ((155, .int .i64 _) :: (154, .slice _ _ _) :: _) rfl ?_
          refine q_ 156 (fun _ c1 => oI 4 rfl rfl ((hr_p2.old c1).addr (h2412 (by rw [h2413] <;> rfl)).1 (h2412 (by rw [h2413] <;> rfl)).2) hz_p2.2.2 (h2412 (by rw [h2413] <;> rfl))) ?_
          refine q_ 157 (fun _ _ => op_field0 rfl (by kernel_rfl)) ?_
          refine q_ 158 (fun _ c1 => oL (v := .int .i64 ((ix p2 s2363).Container)) ((hr_p2.old c1).cell0 (h2412 (by rw [h2413] <;> rfl)).1 (h2412 (by rw [h2413] <;> rfl)).2 rfl)) ?_
          refine qa 2 ((160, .bool _) :: (159, .bool _) :: _) rfl ?_
          exact leaf_q (sub_out 14 _ rfl (by kernel_rfl) ⟨(congrArg Value.bool (by rw [h2413] <;> rfl)), trivial⟩)
         ·refine qa 13 ((160, .bool false) :: (159, undef) :: (158, undef) :: (157, undef) :: (156, undef) :: (155, undef) :: (154, undef) :: (153, undef) :: (152, undef) :: (151, undef) :: (150, undef) :: (149, undef) :: (148, .bool false) :: _) rfl ?_
          exact leaf_q (sub_out 14 _ rfl (by kernel_rfl) ⟨(congrArg Value.bool (by rw [h2413] <;> rfl)), trivial⟩)
        refine xm_next ?_
        refine cm_condB (by kernel_rfl) rfl (fun h2414 => ?_) (fun h2414 => ?_)
        ·refine sr ?_
         refine la 1 ((6, .int .i64 _) :: _) rfl ?_
         refine nn ?_
         refine cm_ret ?_
         refine xm_inR ?_
         refine xm_thenR ?_
         refine xm_lret ?_
         refine xm_inR ?_
         refine xm_inR ?_
         refine xm_lret ?_
         refine xm_lret ?_
         refine xm_inR ?_
         refine xm_lret ?_
         exact xm_retT rfl (by kernel_rfl) (show _ = Value.int .i64 _ from rfl) fun w1 c1 => ⟨(), rfl, hsub [] (by kernel_rfl) rfl w1 c1⟩
        ·refine cm_skip ?_
         refine xm_inN ?_
         refine xm_next ?_
         refine cm_region ?_
         refine la 1 ((131, .int .i64 _) :: _) rfl ?_
         refine lm_ck (fun h2415 => ?_)
         refine v_ 132 (fun _ _ => op_add rfl rfl h2415) ?_
         refine la 1 ((12, .int .i64 _) :: _) rfl ?_
         refine lm_nil ?_
         exact xm_lnext () sq (sh [])
       ·refine cm_exit ?_
        refine xm_thenE ?_
        refine xm_lexit ?_
        refine xm_here ?_
        refine xm_inN ?_
        exact xm_lnext () sq (sh [])
      intro s2255 u2256
      refine cm_region ?_
      refine la 1 ((126, .int .i64 _) :: _) rfl ?_
      refine lm_ck (fun h2416 => ?_)
      refine v_ 127 (fun _ _ => op_add rfl rfl h2416) ?_
      refine la 1 ((11, .int .i64 _) :: _) rfl ?_
      refine lm_nil ?_
      exact xm_lnext () sq (sh [])
     ·refine cm_exit ?_
      refine xm_thenE ?_
      refine xm_lexit ?_
      refine xm_here ?_
      exact xm_lnext () sub_nil (sh [])
    intro s1443 u1444
    refine sr ?_
    refine la 1 ((6, .int .i64 _) :: _) rfl ?_
    refine nn ?_
    refine cm_ret ?_
    exact xm_retT rfl (by kernel_rfl) (show _ = Value.int .i64 _ from rfl) fun w1 c1 => ⟨(), rfl, hsub [] (by kernel_rfl) rfl w1 c1⟩
end Go.Proofs.YtpbgfdmkebnjgaaGreatDoor
