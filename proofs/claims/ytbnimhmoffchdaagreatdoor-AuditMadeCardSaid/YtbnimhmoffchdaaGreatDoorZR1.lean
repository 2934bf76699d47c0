/- Models of functions, and that the code follows them. Written by deco.py. -/
import Derived.Test.YtbnimhmoffchdaaGreatDoorZRS
namespace Go.Proofs.YtbnimhmoffchdaaGreatDoor
open Go.RowKit
set_option linter.unusedSectionVars false
variable [JF]

/-- recyclingref18.fault -/
def m_recyclingref18_fault (_N : Nat) (p0 : ApiEmptying) (p1 : Int) (p2 : Int) : Option (Int) :=
 (if ((decide (p0.ID < 1)) || (decide (1000000 < p0.ID))) = true then
  some ((1 : Int))
 else
  (if ((decide (p0.Container < 0)) || (decide (p1 ≤ p0.Container))) = true then
   some ((7 : Int))
  else
   (if ((decide (p0.Vehicle < 0)) || (decide (p2 ≤ p0.Vehicle))) = true then
    some ((7 : Int))
   else
    (if ((decide (p0.At < 0)) || (decide (3155759999 < p0.At))) = true then
     some ((1 : Int))
    else
     (if (((decide (p0.Mass.Lo < 0)) || (decide (p0.Mass.Hi < p0.Mass.Lo))) || (decide (1073741824 < p0.Mass.Hi))) = true then
      some ((1 : Int))
     else
      some ((0 : Int)))))))
set_option maxHeartbeats 2000000 in
set_option maxRecDepth 20000 in
theorem m_recyclingref18_fault_ok (N : Nat) (w0 : World) (p0 : ApiEmptying) (p1 : Int) (p2 : Int)   (r : Int) (hr : m_recyclingref18_fault N p0 p1 p2 = some r) :
  Ret Tryz.prog 80 [.agg #[.int .i64 p0.ID, .int .i64 p0.Container, .int .i64 p0.Vehicle, .int .i64 p0.At, .int .i64 p0.Mass.Lo, .int .i64 p0.Mass.Hi, .bool p0.Void], .int .i64 p1, .int .i64 p2] w0 (fun (r : Int) (_u : Unit) => .int .i64 r) (fun (_r : Int) (_u : Unit) => []) r := by
 refine calls_v (n := 60) r hr Tryz.func80 ?_
 unfold m_recyclingref18_fault
 refine sr <| lm_box 3 [.int .i64 _, .int .i64 _, .int .i64 _, .int .i64 _, .int .i64 _, .int .i64 _, .bool _] (by kernel_rfl) rfl ?_
 intro b5
 refine la 1 ((6, .int .i64 _) :: _) rfl <| nn <| cm_seq <| cm_seq <| cm_cutE [(14, .bool ((decide (p0.ID < 1)) || (decide (1000000 < p0.ID))))] ?_ ?_
 ·refine q_ 7 (fun _ _ => oF 0 0 rfl) <| q_ 8 (fun _ c1 => oL (c1.cell 0 (u := .int .i64 _) rfl rfl)) <| qd 9 (fun _ _ => op_lss rfl rfl) (fun h6 => ?_) (fun h6 => ?_)
  ·refine qa 5 ((14, .bool true) :: (13, undef) :: (12, undef) :: (11, undef) :: (10, .bool true) :: _) rfl ?_
   exact leaf_q (sub_out 8 _ rfl (by kernel_rfl) ⟨(congrArg Value.bool (by rw [decide_eq_true h6] <;> rfl)), trivial⟩)
  ·refine qa 1 ((10, .bool false) :: _) rfl <| q_ 11 (fun _ _ => oF 0 0 rfl) <| q_ 12 (fun _ c1 => oL (c1.cell 0 (u := .int .i64 _) rfl rfl)) <| qa 2 ((14, .bool _) :: (13, .bool _) :: _) rfl ?_
   exact leaf_q (sub_out 8 _ rfl (by kernel_rfl) ⟨(congrArg Value.bool (by rw [decide_eq_false h6] <;> rfl)), trivial⟩)
 refine xm_next <| cm_condB (by kernel_rfl) rfl (fun h7 => ?_) (fun h7 => ?_)
 ·refine sr <| la 1 ((6, .int .i64 _) :: _) rfl <| nn <| cm_ret <| xm_thenR ?_
  exact xm_retT rfl (by kernel_rfl) (show _ = Value.int .i64 _ from rfl) fun w1 c1 => ⟨(), rfl, hsub [] (by kernel_rfl) rfl w1 c1⟩
 ·refine sk <| cm_seq <| cm_seq <| cm_cutE [(23, .bool ((decide (p0.Container < 0)) || (decide (p1 ≤ p0.Container))))] ?_ ?_
  ·refine q_ 15 (fun _ _ => oF 1 1 rfl) <| q_ 16 (fun _ c1 => oL (c1.cell 0 (u := .int .i64 _) rfl rfl)) <| qd 17 (fun _ _ => op_lss rfl rfl) (fun h8 => ?_) (fun h8 => ?_)
   ·refine qa 6 ((23, .bool true) :: (22, undef) :: (21, undef) :: (20, undef) :: (19, undef) :: (18, .bool true) :: _) rfl ?_
    exact leaf_q (sub_out 9 _ rfl (by kernel_rfl) ⟨(congrArg Value.bool (by rw [decide_eq_true h8] <;> rfl)), trivial⟩)
   ·refine qa 1 ((18, .bool false) :: _) rfl <| q_ 19 (fun _ _ => oF 1 1 rfl) <| q_ 20 (fun _ c1 => oL (c1.cell 0 (u := .int .i64 _) rfl rfl)) <| qa 3 ((23, .bool _) :: (22, .bool _) :: (21, .int .i64 _) :: _) rfl ?_
    exact leaf_q (sub_out 9 _ rfl (by kernel_rfl) ⟨(congrArg Value.bool (by rw [decide_eq_false h8] <;> rfl)), trivial⟩)
  refine xm_next <| cm_condB (by kernel_rfl) rfl (fun h9 => ?_) (fun h9 => ?_)
  ·refine sr <| la 1 ((6, .int .i64 _) :: _) rfl <| nn <| cm_ret <| xm_thenR ?_
   exact xm_retT rfl (by kernel_rfl) (show _ = Value.int .i64 _ from rfl) fun w1 c1 => ⟨(), rfl, hsub [] (by kernel_rfl) rfl w1 c1⟩
  ·refine sk <| cm_seq <| cm_seq <| cm_cutE [(32, .bool ((decide (p0.Vehicle < 0)) || (decide (p2 ≤ p0.Vehicle))))] ?_ ?_
   ·refine q_ 24 (fun _ _ => oF 2 2 rfl) <| q_ 25 (fun _ c1 => oL (c1.cell 0 (u := .int .i64 _) rfl rfl)) <| qd 26 (fun _ _ => op_lss rfl rfl) (fun b => ?_) (fun b => ?_)
    ·refine qa 6 ((32, .bool true) :: (31, undef) :: (30, undef) :: (29, undef) :: (28, undef) :: (27, .bool true) :: _) rfl ?_
     exact leaf_q (sub_out 9 _ rfl (by kernel_rfl) ⟨(congrArg Value.bool (by rw [decide_eq_true b] <;> rfl)), trivial⟩)
    ·refine qa 1 ((27, .bool false) :: _) rfl <| q_ 28 (fun _ _ => oF 2 2 rfl) <| q_ 29 (fun _ c1 => oL (c1.cell 0 (u := .int .i64 _) rfl rfl)) <| qa 3 ((32, .bool _) :: (31, .bool _) :: (30, .int .i64 _) :: _) rfl ?_
     exact leaf_q (sub_out 9 _ rfl (by kernel_rfl) ⟨(congrArg Value.bool (by rw [decide_eq_false b] <;> rfl)), trivial⟩)
   refine xm_next <| cm_condB (by kernel_rfl) rfl (fun f => ?_) (fun f => ?_)
   ·refine sr <| la 1 ((6, .int .i64 _) :: _) rfl <| nn <| cm_ret <| xm_thenR ?_
    exact xm_retT rfl (by kernel_rfl) (show _ = Value.int .i64 _ from rfl) fun w1 c1 => ⟨(), rfl, hsub [] (by kernel_rfl) rfl w1 c1⟩
   ·refine sk <| cm_seq <| cm_seq <| cm_cutE [(40, .bool ((decide (p0.At < 0)) || (decide (3155759999 < p0.At))))] ?_ ?_
    ·refine q_ 33 (fun _ _ => oF 3 3 rfl) <| q_ 34 (fun _ c1 => oL (c1.cell 0 (u := .int .i64 _) rfl rfl)) <| qd 35 (fun _ _ => op_lss rfl rfl) (fun d => ?_) (fun d => ?_)
     ·refine qa 5 ((40, .bool true) :: (39, undef) :: (38, undef) :: (37, undef) :: (36, .bool true) :: _) rfl ?_
      exact leaf_q (sub_out 8 _ rfl (by kernel_rfl) ⟨(congrArg Value.bool (by rw [decide_eq_true d] <;> rfl)), trivial⟩)
     ·refine qa 1 ((36, .bool false) :: _) rfl <| q_ 37 (fun _ _ => oF 3 3 rfl) <| q_ 38 (fun _ c1 => oL (c1.cell 0 (u := .int .i64 _) rfl rfl)) <| qa 2 ((40, .bool _) :: (39, .bool _) :: _) rfl ?_
      exact leaf_q (sub_out 8 _ rfl (by kernel_rfl) ⟨(congrArg Value.bool (by rw [decide_eq_false d] <;> rfl)), trivial⟩)
    refine xm_next <| cm_condB (by kernel_rfl) rfl (fun g => ?_) (fun g => ?_)
    ·refine sr <| la 1 ((6, .int .i64 _) :: _) rfl <| nn <| cm_ret <| xm_thenR ?_
     exact xm_retT rfl (by kernel_rfl) (show _ = Value.int .i64 _ from rfl) fun w1 c1 => ⟨(), rfl, hsub [] (by kernel_rfl) rfl w1 c1⟩
    ·refine sk <| cm_seq <| cm_seq <| cm_cutE [(59, .bool (((decide (p0.Mass.Lo < 0)) || (decide (p0.Mass.Hi < p0.Mass.Lo))) || (decide (1073741824 < p0.Mass.Hi))))] ?_ ?_
     ·refine q_ 41 (fun _ _ => oF 4 4 rfl) <| q_ 42 (fun _ _ => oF 0 4 rfl) <| q_ 43 (fun _ c1 => oL (c1.cell 0 (u := .int .i64 _) rfl rfl)) <| qd 44 (fun _ _ => op_lss rfl rfl) (fun a => ?_) (fun a => ?_)
      ·refine qa 15 ((59, .bool true) :: (58, undef) :: (57, undef) :: (56, undef) :: (55, undef) :: (54, .bool true) :: (53, .bool true) :: (52, undef) :: (51, undef) :: (50, undef) :: (49, undef) :: (48, undef) :: (47, undef) :: (46, undef) :: (45, .bool true) :: _) rfl ?_
       exact leaf_q (sub_out 19 _ rfl (by kernel_rfl) ⟨(congrArg Value.bool (by rw [decide_eq_true a] <;> rfl)), trivial⟩)
      ·refine qa 1 ((45, .bool false) :: _) rfl <| q_ 46 (fun _ _ => oF 4 4 rfl) <| q_ 47 (fun _ _ => oF 0 4 rfl) <| q_ 48 (fun _ c1 => oL (c1.cell 0 (u := .int .i64 _) rfl rfl)) <| q_ 49 (fun _ _ => oF 4 4 rfl) <| q_ 50 (fun _ _ => oF 1 5 rfl) <| q_ 51 (fun _ c1 => oL (c1.cell 0 (u := .int .i64 _) rfl rfl)) <| qd 52 (fun _ _ => op_gtr rfl rfl) (fun e => ?_) (fun e => ?_)
       ·refine qa 7 ((59, .bool true) :: (58, undef) :: (57, undef) :: (56, undef) :: (55, undef) :: (54, .bool true) :: (53, .bool true) :: _) rfl ?_
        exact leaf_q (sub_out 19 _ rfl (by kernel_rfl) ⟨(congrArg Value.bool (by rw [decide_eq_false a, decide_eq_true e] <;> rfl)), trivial⟩)
       ·refine qa 2 ((54, .bool false) :: (53, .bool false) :: _) rfl <| q_ 55 (fun _ _ => oF 4 4 rfl) <| q_ 56 (fun _ _ => oF 1 5 rfl) <| q_ 57 (fun _ c1 => oL (c1.cell 0 (u := .int .i64 _) rfl rfl)) <| qa 2 ((59, .bool _) :: (58, .bool _) :: _) rfl ?_
        exact leaf_q (sub_out 19 _ rfl (by kernel_rfl) ⟨(congrArg Value.bool (by rw [decide_eq_false a, decide_eq_false e] <;> rfl)), trivial⟩)
     refine xm_next <| cm_condB (by kernel_rfl) rfl (fun i => ?_) (fun i => ?_)
     ·refine sr <| la 1 ((6, .int .i64 _) :: _) rfl <| nn <| cm_ret <| xm_thenR ?_
      exact xm_retT rfl (by kernel_rfl) (show _ = Value.int .i64 _ from rfl) fun w1 c1 => ⟨(), rfl, hsub [] (by kernel_rfl) rfl w1 c1⟩
     ·refine sk <| sr <| la 1 ((6, .int .i64 _) :: _) rfl <| nn <| cm_ret ?_
      exact xm_retT rfl (by kernel_rfl) (show _ = Value.int .i64 _ from rfl) fun w1 c1 => ⟨(), rfl, hsub [] (by kernel_rfl) rfl w1 c1⟩
/-- recyclingref18.Check -/
def m_recyclingref18_Check (N : Nat) (p0 : (List ApiEmptying)) (p1 : Int) (p2 : Int) : Option (Int) :=
 (if 512 < (List.length p0 : Int) then
  some ((8 : Int))
 else
  (andThen
   (loopM (fun (d : Int) =>
    (if d < (List.length p0 : Int) then
     ck ((0 : Int) ≤ d ∧ d < (List.length p0 : Int)) (
      Option.bind (m_recyclingref18_fault N (ix p0 d) p1 p2) fun e => (if e ≠ 0 then
       some (.done (.done (e)))
      else
       ck (I64 (d + (1 : Int))) (
        some (.next (d + (1 : Int))))))
    else
     some (.done (.next ())))) N (0 : Int))
  fun (_s30 : Unit) =>
   (andThen
    (loopM (fun (a : Int) =>
     (if a < (List.length p0 : Int) then
      (andThen
       (loopM (fun (b : Int) =>
        (if b < a then
         ck ((0 : Int) ≤ a ∧ a < (List.length p0 : Int)) (
          ck ((0 : Int) ≤ b ∧ b < (List.length p0 : Int)) (
           (if (ix p0 a).ID = (ix p0 b).ID then
            some (.done (.done (.done (.done ((6 : Int))))))
           else
            ck (I64 (b + (1 : Int))) (
             some (.next (b + (1 : Int)))))))
        else
         some (.done (.next ())))) N (0 : Int))
      fun (_s322 : Unit) =>
       ck (I64 (a + (1 : Int))) (
        some (.next (a + (1 : Int)))))
     else
      some (.done (.next ())))) N (0 : Int))
   fun (_s200 : Unit) =>
    some ((0 : Int)))))
set_option maxHeartbeats 2000000 in
set_option maxRecDepth 20000 in
theorem m_recyclingref18_Check_ok (N : Nat) (w0 : World) (p0 : (List ApiEmptying)) (p1 : Int) (p2 : Int) (a : Option Addr) (f : Nat) (g : Nat) (d : RdE w0 7 encApiEmptying a p0) (e : SW a f g (List.length p0)) (r : Int) (hr : m_recyclingref18_Check N p0 p1 p2 = some r) :
  Ret Tryz.prog 31 [.slice a f g, .int .i64 p1, .int .i64 p2] w0 (fun (r : Int) (_u : Unit) => .int .i64 r) (fun (_r : Int) (_u : Unit) => []) r := by
 refine calls_v (n := 52) r hr Tryz.func31 ?_
 unfold m_recyclingref18_Check
 refine sr <| la 1 ((6, .int .i64 _) :: _) rfl <| nn <| cm_seq <| sr <| la 1 ((11, .slice _ _ _) :: _) rfl <| v_ 12 (fun _ _ => op_lenN rfl (by kernel_rfl) e.2.2) <| la 1 ((13, .bool _) :: _) rfl <| nn <| cm_cond (by kernel_rfl) rfl (fun h5 => ?_) (fun h5 => ?_)
 ·refine sr <| la 1 ((6, .int .i64 _) :: _) rfl <| nn <| cm_ret <| xm_thenR ?_
  exact xm_retT rfl (by kernel_rfl) (show _ = Value.int .i64 _ from rfl) fun w1 c1 => ⟨(), rfl, hsub [] (by kernel_rfl) rfl w1 c1⟩
 ·refine sk <| cm_join (σ := Unit) (ξ := Unit) (fun C G => [(0, .slice a f g)]) (fun C G => []) ?_ ?_
  ·refine sr <| la 1 ((7, .int .i64 _) :: _) rfl <| nn <| cm_block <| cm_loop (σ := Int) (ξ := Unit) (fun b J => [(0, .slice a f g), (1, .int .i64 p1), (2, .int .i64 p2), (7, .int .i64 b)]) (fun b J => []) () ?_ ?_ ?_
   ·exact sq
   ·exact sh []
   intro b J
   refine cm_seq <| sr <| la 2 ((15, .slice _ _ _) :: (14, .int .i64 _) :: _) rfl <| v_ 16 (fun _ _ => op_lenN rfl (by kernel_rfl) e.2.2) <| la 1 ((17, .bool _) :: _) rfl <| nn <| cm_cond (by kernel_rfl) rfl (fun U => ?_) (fun U => ?_)
   ·refine sk <| cm_seq <| cm_block <| sr <| la 2 ((21, .int .i64 _) :: (20, .slice _ _ _) :: _) rfl <| lm_ck (fun o => ?_)
    refine v_ 22 (fun _ c1 => oI 7 rfl rfl ((d.old c1).addr o.1 o.2) e.2.2 o) <| v_ 23 (fun _ c1 => oR [.int .i64 ((ix p0 b).ID), .int .i64 ((ix p0 b).Container), .int .i64 ((ix p0 b).Vehicle), .int .i64 ((ix p0 b).At), .int .i64 ((ix p0 b).Mass.Lo), .int .i64 ((ix p0 b).Mass.Hi), .bool ((ix p0 b).Void)] ((d.old c1).row o.1 o.2)) <| la 2 ((25, .int .i64 _) :: (24, .int .i64 _) :: _) rfl <| lm_call 26 (V := (fun (r : Int) (_u : Unit) => .int .i64 r)) (HR := (fun (_r : Int) (_u : Unit) => [])) (by kernel_rfl) (fun w1 => op_call (by kernel_rfl)) (fun r1 hr1 w1 c1 => m_recyclingref18_fault_ok N w1 (ix p0 b) p1 p2  r1 hr1) ?_
    intro Z a0
    refine la 1 ((8, .int .i64 _) :: _) rfl <| nn <| sr <| la 2 ((28, .bool _) :: (27, .int .i64 _) :: _) rfl <| nn <| cm_cond (by kernel_rfl) rfl (fun X => ?_) (fun X => ?_)
    ·refine sr <| la 2 ((6, .int .i64 _) :: (29, .int .i64 _) :: _) rfl <| nn <| cm_ret <| xm_inR <| xm_thenR <| xm_lret <| xm_inR <| xm_lret ?_
     exact xm_retT rfl (by kernel_rfl) (show _ = Value.int .i64 _ from rfl) fun w1 c1 => ⟨(), rfl, hsub [] (by kernel_rfl) rfl w1 c1⟩
    ·refine cm_skip <| xm_inN <| xm_next <| cm_region <| la 1 ((18, .int .i64 _) :: _) rfl <| lm_ck (fun Y => ?_)
     refine v_ 19 (fun _ _ => op_add rfl rfl Y) <| la 1 ((7, .int .i64 _) :: _) rfl <| lm_nil ?_
     exact xm_lnext () sq (sh [])
   ·refine cm_exit <| xm_thenE <| xm_lexit <| xm_here ?_
    exact xm_lnext () sq (sh [])
  intro C G
  refine cm_join (σ := Unit) (ξ := Unit) (fun q t => []) (fun q t => []) ?_ ?_
  ·refine sr <| la 1 ((9, .int .i64 _) :: _) rfl <| nn <| cm_block <| cm_loop (σ := Int) (ξ := Unit) (fun i x => [(0, .slice a f g), (9, .int .i64 i)]) (fun i x => []) () ?_ ?_ ?_
   ·exact sq
   ·exact sh []
   intro i x
   refine cm_seq <| sr <| la 2 ((31, .slice _ _ _) :: (30, .int .i64 _) :: _) rfl <| v_ 32 (fun _ _ => op_lenN rfl (by kernel_rfl) e.2.2) <| la 1 ((33, .bool _) :: _) rfl <| nn <| cm_cond (by kernel_rfl) rfl (fun K => ?_) (fun K => ?_)
   ·refine sk <| cm_join (σ := Unit) (ξ := Unit) (fun y z => [(0, .slice a f g), (9, .int .i64 i)]) (fun y z => []) ?_ ?_
    ·refine cm_block <| sr <| la 1 ((10, .int .i64 _) :: _) rfl <| nn <| cm_block <| cm_loop (σ := Int) (ξ := Unit) (fun j B => [(0, .slice a f g), (9, .int .i64 i), (10, .int .i64 j)]) (fun j B => []) () ?_ ?_ ?_
     ·exact sq
     ·exact sh []
     intro j B
     refine cm_seq <| sr <| la 3 ((38, .bool _) :: (37, .int .i64 _) :: (36, .int .i64 _) :: _) rfl <| nn <| cm_cond (by kernel_rfl) rfl (fun L => ?_) (fun L => ?_)
     ·refine sk <| cm_seq <| cm_block <| cm_seq <| cm_ck (fun l => ?_)
      refine cm_ck (fun m => ?_)
      refine cm_drawn [(51, .bool (decide ((ix p0 i).ID = (ix p0 j).ID)))] (by kernel_rfl) (by kernel_rfl) ?_ ?_
      ·refine qa 2 ((42, .int .i64 _) :: (41, .slice _ _ _) :: _) rfl <| q_ 43 (fun _ c1 => oI 7 rfl rfl ((d.old c1).addr l.1 l.2) e.2.2 l) <| q_ 44 (fun _ _ => op_field0 rfl (by kernel_rfl)) <| q_ 45 (fun _ c1 => oL (v := .int .i64 ((ix p0 i).ID)) ((d.old c1).cell0 l.1 l.2 rfl)) <| qa 2 ((47, .int .i64 _) :: (46, .slice _ _ _) :: _) rfl <| q_ 48 (fun _ c1 => oI 7 rfl rfl ((d.old c1).addr m.1 m.2) e.2.2 m) <| q_ 49 (fun _ _ => op_field0 rfl (by kernel_rfl)) <| q_ 50 (fun _ c1 => oL (v := .int .i64 ((ix p0 j).ID)) ((d.old c1).cell0 m.1 m.2 rfl)) <| qa 1 ((51, .bool _) :: _) rfl ?_
       exact lq 11
      refine xm_next <| cm_cond (by kernel_rfl) rfl (fun M => ?_) (fun M => ?_)
      ·refine sr <| la 1 ((6, .int .i64 _) :: _) rfl <| nn <| cm_ret <| xm_inR <| xm_thenR <| xm_lret <| xm_inR <| xm_inR <| xm_lret <| xm_lret <| xm_inR ?_
       refine xm_lret ?_
       exact xm_retT rfl (by kernel_rfl) (show _ = Value.int .i64 _ from rfl) fun w1 c1 => ⟨(), rfl, hsub [] (by kernel_rfl) rfl w1 c1⟩
      ·refine cm_skip <| xm_inN <| xm_next <| cm_region <| la 1 ((39, .int .i64 _) :: _) rfl <| lm_ck (fun O => ?_)
       refine v_ 40 (fun _ _ => op_add rfl rfl O) <| la 1 ((10, .int .i64 _) :: _) rfl <| lm_nil ?_
       exact xm_lnext () sq (sh [])
     ·refine cm_exit <| xm_thenE <| xm_lexit <| xm_here <| xm_inN ?_
      exact xm_lnext () sq (sh [])
    intro y z
    refine cm_region <| la 1 ((34, .int .i64 _) :: _) rfl <| lm_ck (fun Q => ?_)
    refine v_ 35 (fun _ _ => op_add rfl rfl Q) <| la 1 ((9, .int .i64 _) :: _) rfl <| lm_nil ?_
    exact xm_lnext () sq (sh [])
   ·refine cm_exit <| xm_thenE <| xm_lexit <| xm_here ?_
    exact xm_lnext () sub_nil (sh [])
  intro q t
  refine sr <| la 1 ((6, .int .i64 _) :: _) rfl <| nn <| cm_ret ?_
  exact xm_retT rfl (by kernel_rfl) (show _ = Value.int .i64 _ from rfl) fun w1 c1 => ⟨(), rfl, hsub [] (by kernel_rfl) rfl w1 c1⟩
/-- recyclingref04.letter -/
def m_recyclingref04_letter (_N : Nat) (p0 : Int) : Option (Bool) :=
 some ((((decide (65 ≤ p0)) && (decide (p0 ≤ 90))) || ((decide (97 ≤ p0)) && (decide (p0 ≤ 122)))))
set_option maxRecDepth 20000 in
theorem m_recyclingref04_letter_ok (N : Nat) (w0 : World) (p0 : Int)   (r : Bool) (hr : m_recyclingref04_letter N p0 = some r) :
  Ret Tryz.prog 128 [.int .u8 p0] w0 (fun (r : Bool) (_u : Unit) => .bool r) (fun (_r : Bool) (_u : Unit) => []) r := by
 refine calls_v (n := 17) r hr Tryz.func128 ?_
 unfold m_recyclingref04_letter
 refine sr <| la 1 ((2, .bool false) :: _) rfl <| nn <| cm_seq <| cm_cutE [(2, .bool (((decide (65 ≤ p0)) && (decide (p0 ≤ 90))) || ((decide (97 ≤ p0)) && (decide (p0 ≤ 122)))))] ?_ ?_
 ·refine qa 1 ((3, .int .u8 _) :: _) rfl <| qd 4 (fun _ _ => op_geqK rfl rfl) (fun h5 => ?_) (fun h5 => ?_)
  ·refine qa 2 ((6, .int .u8 _) :: (5, .bool true) :: _) rfl <| qd 7 (fun _ _ => op_leqK rfl rfl) (fun h6 => ?_) (fun h6 => ?_)
   ·refine qa 10 ((2, .bool true) :: (16, .bool true) :: (15, undef) :: (14, undef) :: (13, undef) :: (12, undef) :: (11, undef) :: (10, undef) :: (9, .bool true) :: (8, .bool true) :: _) rfl ?_
    exact leaf_q (sub_out 15 _ rfl (by kernel_rfl) ⟨(congrArg Value.bool (by rw [decide_eq_true h5, decide_eq_true h6] <;> rfl)), trivial⟩)
   ·refine qa 3 ((10, .int .u8 _) :: (9, .bool false) :: (8, .bool false) :: _) rfl <| qd 11 (fun _ _ => op_geqK rfl rfl) (fun h7 => ?_) (fun h7 => ?_)
    ·refine qa 2 ((13, .int .u8 _) :: (12, .bool true) :: _) rfl <| q_ 14 (fun _ _ => op_leqK rfl rfl) <| qa 3 ((2, .bool _) :: (16, .bool _) :: (15, .bool _) :: _) rfl ?_
     exact leaf_q (sub_out 15 _ rfl (by kernel_rfl) ⟨(congrArg Value.bool (by rw [decide_eq_true h5, decide_eq_false h6, decide_eq_true h7] <;> rfl)), trivial⟩)
    ·refine qa 6 ((2, .bool false) :: (16, .bool false) :: (15, .bool false) :: (14, undef) :: (13, undef) :: (12, .bool false) :: _) rfl ?_
     exact leaf_q (sub_out 15 _ rfl (by kernel_rfl) ⟨(congrArg Value.bool (by rw [decide_eq_true h5, decide_eq_false h6, decide_eq_false h7] <;> rfl)), trivial⟩)
  ·refine qa 6 ((10, .int .u8 _) :: (9, .bool false) :: (8, .bool false) :: (7, undef) :: (6, undef) :: (5, .bool false) :: _) rfl <| qd 11 (fun _ _ => op_geqK rfl rfl) (fun h8 => ?_) (fun h8 => ?_)
   ·refine qa 2 ((13, .int .u8 _) :: (12, .bool true) :: _) rfl <| q_ 14 (fun _ _ => op_leqK rfl rfl) <| qa 3 ((2, .bool _) :: (16, .bool _) :: (15, .bool _) :: _) rfl ?_
    exact leaf_q (sub_out 15 _ rfl (by kernel_rfl) ⟨(congrArg Value.bool (by rw [decide_eq_false h5, decide_eq_true h8] <;> rfl)), trivial⟩)
   ·refine qa 6 ((2, .bool false) :: (16, .bool false) :: (15, .bool false) :: (14, undef) :: (13, undef) :: (12, .bool false) :: _) rfl ?_
    exact leaf_q (sub_out 15 _ rfl (by kernel_rfl) ⟨(congrArg Value.bool (by rw [decide_eq_false h5, decide_eq_false h8] <;> rfl)), trivial⟩)
 refine xm_next <| cm_ret ?_
 exact xm_retT rfl (by kernel_rfl) (show _ = Value.bool _ from rfl) fun w1 c1 => ⟨(), rfl, hsub [] (by kernel_rfl) rfl w1 c1⟩
/-- recyclingref04.Valid -/
def m_recyclingref04_Valid (N : Nat) (p0 : ByteArray) : Option (Bool) :=
 ck ((!((decide ((ByteArray.size p0 : Int) < 1)) || (decide (32 < (ByteArray.size p0 : Int))))) = true → (0 : Int) ≤ 0 ∧ 0 < (ByteArray.size p0 : Int)) (
  callIf ((!((decide ((ByteArray.size p0 : Int) < 1)) || (decide (32 < (ByteArray.size p0 : Int))))) = true) (m_recyclingref04_letter N (bget p0 (0 : Int))) fun r6 => (if (((decide ((ByteArray.size p0 : Int) < 1)) || (decide (32 < (ByteArray.size p0 : Int)))) || (!r6)) = true then
   some (false)
  else
   (andThen
    (loopM (fun (a : Int) =>
     (if a < (ByteArray.size p0 : Int) then
      ck ((0 : Int) ≤ a ∧ a < (ByteArray.size p0 : Int)) (
       Option.bind (m_recyclingref04_letter N (bget p0 a)) fun b => (if (((((!b) && ((decide ((bget p0 a) < 48)) || (decide (57 < (bget p0 a))))) && (decide ((bget p0 a) ≠ 45))) && (decide ((bget p0 a) ≠ 95))) && (decide ((bget p0 a) ≠ 46))) = true then
        some (.done (.done (false)))
       else
        ck (I64 (a + (1 : Int))) (
         some (.next (a + (1 : Int))))))
     else
      some (.done (.next ())))) N (0 : Int))
   fun (_s56 : Unit) =>
    some (true))))
set_option maxHeartbeats 2000000 in
set_option maxRecDepth 20000 in
theorem m_recyclingref04_Valid_ok (N : Nat) (w0 : World) (p0 : ByteArray)   (r : Bool) (hr : m_recyclingref04_Valid N p0 = some r) :
  Ret Tryz.prog 77 [.string p0] w0 (fun (r : Bool) (_u : Unit) => .bool r) (fun (_r : Bool) (_u : Unit) => []) r := by
 refine calls_v (n := 51) r hr Tryz.func77 ?_
 unfold m_recyclingref04_Valid
 refine sr <| la 1 ((2, .bool false) :: _) rfl <| nn <| cm_seq <| cm_seq <| cm_ck (fun h5 => ?_)
 refine cm_callIf fun r6 h7 => cm_cutE [(18, .bool (((decide ((ByteArray.size p0 : Int) < 1)) || (decide (32 < (ByteArray.size p0 : Int)))) || (!r6)))] ?_ ?_
 ·refine qa 1 ((5, .string _) :: _) rfl <| q_ 6 (fun _ _ => op_lenS rfl (by kernel_rfl)) <| qd 7 (fun _ _ => op_lss rfl rfl) (fun h8 => ?_) (fun h8 => ?_)
  ·refine qa 11 ((18, .bool true) :: (17, undef) :: (16, undef) :: (15, undef) :: (14, undef) :: (13, .bool true) :: (12, .bool true) :: (11, undef) :: (10, undef) :: (9, undef) :: (8, .bool true) :: _) rfl ?_
   exact leaf_q (sub_out 14 _ rfl (by kernel_rfl) ⟨(congrArg Value.bool (by rw [decide_eq_true h8] <;> rfl)), trivial⟩)
  ·refine qa 2 ((9, .string _) :: (8, .bool false) :: _) rfl <| q_ 10 (fun _ _ => op_lenS rfl (by kernel_rfl)) <| qd 11 (fun _ _ => op_gtr rfl rfl) (fun h9 => ?_) (fun h9 => ?_)
   ·refine qa 7 ((18, .bool true) :: (17, undef) :: (16, undef) :: (15, undef) :: (14, undef) :: (13, .bool true) :: (12, .bool true) :: _) rfl ?_
    exact leaf_q (sub_out 14 _ rfl (by kernel_rfl) ⟨(congrArg Value.bool (by rw [decide_eq_false h8, decide_eq_true h9] <;> rfl)), trivial⟩)
   ·refine qa 3 ((14, .string _) :: (13, .bool false) :: (12, .bool false) :: _) rfl <| q_ 15 (fun _ _ => op_indexS rfl rfl (by kernel_rfl) (h5 (by rw [decide_eq_false h8, decide_eq_false h9] <;> rfl)).1 (h5 (by rw [decide_eq_false h8, decide_eq_false h9] <;> rfl)).2) <| wq_call 16 (by kernel_rfl) (fun w1 c1 => op_call (by kernel_rfl)) (fun w1 c1 => (m_recyclingref04_letter_ok N w1 (bget p0 (0 : Int))  r6 (h7 (by rw [decide_eq_false h8, decide_eq_false h9] <;> rfl))).mono (fun _ _ ⟨_, hx, hu⟩ => ⟨hx, c1.call hu⟩)) <| qa 2 ((18, .bool _) :: (17, .bool _) :: _) rfl ?_
    exact leaf_q (sub_out 14 _ rfl (by kernel_rfl) ⟨(congrArg Value.bool (by rw [decide_eq_false h8, decide_eq_false h9] <;> rfl)), trivial⟩)
 refine xm_next <| cm_condB (by kernel_rfl) rfl (fun y => ?_) (fun y => ?_)
 ·refine sr <| la 1 ((2, .bool false) :: _) rfl <| nn <| cm_ret <| xm_thenR ?_
  exact xm_retT rfl (by kernel_rfl) (show _ = Value.bool false from rfl) fun w1 c1 => ⟨(), rfl, hsub [] (by kernel_rfl) rfl w1 c1⟩
 ·refine sk <| cm_join (σ := Unit) (ξ := Unit) (fun l m => []) (fun l m => []) ?_ ?_
  ·refine sr <| la 1 ((3, .int .i64 _) :: _) rfl <| nn <| cm_block <| cm_loop (σ := Int) (ξ := Unit) (fun a o => [(0, .string p0), (3, .int .i64 a)]) (fun a o => []) () ?_ ?_ ?_
   ·exact sq
   ·exact sh []
   intro a o
   refine cm_seq <| sr <| la 2 ((20, .string _) :: (19, .int .i64 _) :: _) rfl <| v_ 21 (fun _ _ => op_lenS rfl (by kernel_rfl)) <| la 1 ((22, .bool _) :: _) rfl <| nn <| cm_cond (by kernel_rfl) rfl (fun z => ?_) (fun z => ?_)
   ·refine sk <| cm_seq <| cm_block <| sr <| la 2 ((26, .int .i64 _) :: (25, .string _) :: _) rfl <| lm_ck (fun q => ?_)
    refine v_ 27 (fun _ _ => op_indexS rfl rfl (by kernel_rfl) q.1 q.2) <| la 1 ((4, .int .u8 _) :: _) rfl <| nn <| cm_seq <| cm_bind fun t B => cm_cutE [(50, .bool (((((!t) && ((decide ((bget p0 a) < 48)) || (decide (57 < (bget p0 a))))) && (decide ((bget p0 a) ≠ 45))) && (decide ((bget p0 a) ≠ 95))) && (decide ((bget p0 a) ≠ 46))))] ?_ ?_
    ·refine qa 1 ((28, .int .u8 _) :: _) rfl <| wq_callb 29 (by kernel_rfl) (fun w1 c1 => op_call (by kernel_rfl)) (fun w1 c1 => (m_recyclingref04_letter_ok N w1 (bget p0 a)  t B).mono (fun _ _ ⟨_, hx, hu⟩ => ⟨hx, c1.call hu⟩)) (fun b => ?_) (fun b => ?_)
     ·refine qa 21 ((50, .bool false) :: (49, undef) :: (48, undef) :: (47, .bool false) :: (46, .bool false) :: (45, undef) :: (44, undef) :: (43, .bool false) :: (42, .bool false) :: (41, undef) :: (40, undef) :: (39, .bool false) :: (38, .bool false) :: (37, undef) :: (36, undef) :: (35, undef) :: (34, undef) :: (33, undef) :: (32, undef) :: (31, .bool false) :: (30, .bool false) :: _) rfl ?_
      exact leaf_q (sub_out 23 _ rfl (by kernel_rfl) ⟨(congrArg Value.bool (by rw [b] <;> rfl)), trivial⟩)
     ·refine qa 3 ((32, .int .u8 _) :: (31, .bool true) :: (30, .bool true) :: _) rfl <| qd 33 (fun _ _ => op_lssK rfl rfl) (fun d => ?_) (fun d => ?_)
      ·refine qa 7 ((40, .int .u8 _) :: (39, .bool true) :: (38, .bool true) :: (37, .bool true) :: (36, undef) :: (35, undef) :: (34, .bool true) :: _) rfl <| qd 41 (fun _ _ => op_neqK rfl rfl) (fun g => ?_) (fun g => ?_)
       ·refine qa 3 ((44, .int .u8 _) :: (43, .bool true) :: (42, .bool true) :: _) rfl <| qd 45 (fun _ _ => op_neqK rfl rfl) (fun j => ?_) (fun j => ?_)
        ·refine qa 3 ((48, .int .u8 _) :: (47, .bool true) :: (46, .bool true) :: _) rfl <| q_ 49 (fun _ _ => op_neqK rfl rfl) <| qa 1 ((50, .bool _) :: _) rfl ?_
         exact leaf_q (sub_out 23 _ rfl (by kernel_rfl) ⟨(congrArg Value.bool (by rw [b, decide_eq_true d, decide_eq_true g, decide_eq_true j] <;> rfl)), trivial⟩)
        ·refine qa 5 ((50, .bool false) :: (49, undef) :: (48, undef) :: (47, .bool false) :: (46, .bool false) :: _) rfl ?_
         exact leaf_q (sub_out 23 _ rfl (by kernel_rfl) ⟨(congrArg Value.bool (by rw [b, decide_eq_true d, decide_eq_true g, decide_eq_false j] <;> rfl)), trivial⟩)
       ·refine qa 9 ((50, .bool false) :: (49, undef) :: (48, undef) :: (47, .bool false) :: (46, .bool false) :: (45, undef) :: (44, undef) :: (43, .bool false) :: (42, .bool false) :: _) rfl ?_
        exact leaf_q (sub_out 23 _ rfl (by kernel_rfl) ⟨(congrArg Value.bool (by rw [b, decide_eq_true d, decide_eq_false g] <;> rfl)), trivial⟩)
      ·refine qa 2 ((35, .int .u8 _) :: (34, .bool false) :: _) rfl <| qd 36 (fun _ _ => op_gtrK rfl rfl) (fun e => ?_) (fun e => ?_)
       ·refine qa 4 ((40, .int .u8 _) :: (39, .bool true) :: (38, .bool true) :: (37, .bool true) :: _) rfl <| qd 41 (fun _ _ => op_neqK rfl rfl) (fun i => ?_) (fun i => ?_)
        ·refine qa 3 ((44, .int .u8 _) :: (43, .bool true) :: (42, .bool true) :: _) rfl <| qd 45 (fun _ _ => op_neqK rfl rfl) (fun f => ?_) (fun f => ?_)
         ·refine qa 3 ((48, .int .u8 _) :: (47, .bool true) :: (46, .bool true) :: _) rfl <| q_ 49 (fun _ _ => op_neqK rfl rfl) <| qa 1 ((50, .bool _) :: _) rfl ?_
          exact leaf_q (sub_out 23 _ rfl (by kernel_rfl) ⟨(congrArg Value.bool (by rw [b, decide_eq_false d, decide_eq_true e, decide_eq_true i, decide_eq_true f] <;> rfl)), trivial⟩)
         ·refine qa 5 ((50, .bool false) :: (49, undef) :: (48, undef) :: (47, .bool false) :: (46, .bool false) :: _) rfl ?_
          exact leaf_q (sub_out 23 _ rfl (by kernel_rfl) ⟨(congrArg Value.bool (by rw [b, decide_eq_false d, decide_eq_true e, decide_eq_true i, decide_eq_false f] <;> rfl)), trivial⟩)
        ·refine qa 9 ((50, .bool false) :: (49, undef) :: (48, undef) :: (47, .bool false) :: (46, .bool false) :: (45, undef) :: (44, undef) :: (43, .bool false) :: (42, .bool false) :: _) rfl ?_
         exact leaf_q (sub_out 23 _ rfl (by kernel_rfl) ⟨(congrArg Value.bool (by rw [b, decide_eq_false d, decide_eq_true e, decide_eq_false i] <;> rfl)), trivial⟩)
       ·refine qa 14 ((50, .bool false) :: (49, undef) :: (48, undef) :: (47, .bool false) :: (46, .bool false) :: (45, undef) :: (44, undef) :: (43, .bool false) :: (42, .bool false) :: (41, undef) :: (40, undef) :: (39, .bool false) :: (38, .bool false) :: (37, .bool false) :: _) rfl ?_
        exact leaf_q (sub_out 23 _ rfl (by kernel_rfl) ⟨(congrArg Value.bool (by rw [b, decide_eq_false d, decide_eq_false e] <;> rfl)), trivial⟩)
    refine xm_next <| cm_condB (by kernel_rfl) rfl (fun v => ?_) (fun v => ?_)
    ·refine sr <| la 1 ((2, .bool false) :: _) rfl <| nn <| cm_ret <| xm_inR <| xm_thenR <| xm_lret <| xm_inR <| xm_lret ?_
     exact xm_retT rfl (by kernel_rfl) (show _ = Value.bool false from rfl) fun w1 c1 => ⟨(), rfl, hsub [] (by kernel_rfl) rfl w1 c1⟩
    ·refine cm_skip <| xm_inN <| xm_next <| cm_region <| la 1 ((23, .int .i64 _) :: _) rfl <| lm_ck (fun x => ?_)
     refine v_ 24 (fun _ _ => op_add rfl rfl x) <| la 1 ((3, .int .i64 _) :: _) rfl <| lm_nil ?_
     exact xm_lnext () sq (sh [])
   ·refine cm_exit <| xm_thenE <| xm_lexit <| xm_here ?_
    exact xm_lnext () sub_nil (sh [])
  intro l m
  refine sr <| la 1 ((2, .bool true) :: _) rfl <| nn <| cm_ret ?_
  exact xm_retT rfl (by kernel_rfl) (show _ = Value.bool true from rfl) fun w1 c1 => ⟨(), rfl, hsub [] (by kernel_rfl) rfl w1 c1⟩
/-- recyclingref13.Check -/
def m_recyclingref13_Check (N : Nat) (p0 : (List ApiContainer)) (p1 : Int) (p2 : Int) : Option (Int) :=
 (if 256 < (List.length p0 : Int) then
  some ((8 : Int))
 else
  (andThen
   (loopM (fun (a : Int) =>
    (if a < (List.length p0 : Int) then
     ck ((0 : Int) ≤ a ∧ a < (List.length p0 : Int)) (
      Option.bind (m_recyclingref04_Valid N ((ix p0 a).ID)) fun e => (if (!e) = true then
       some (.done (.done ((5 : Int))))
      else
       (if ((decide ((ix p0 a).Kind < 0)) || (decide (p1 ≤ (ix p0 a).Kind))) = true then
        some (.done (.done ((21 : Int))))
       else
        (if ((((decide ((ix p0 a).Litres < 1)) || (decide (40000 < (ix p0 a).Litres))) || (decide ((ix p0 a).Grams < 1))) || (decide (1073741824 < (ix p0 a).Grams))) = true then
         some (.done (.done ((1 : Int))))
        else
         (if ((decide ((ix p0 a).Node < 0)) || (decide (p2 ≤ (ix p0 a).Node))) = true then
          some (.done (.done ((7 : Int))))
         else
          ck (I64 (a + (1 : Int))) (
           some (.next (a + (1 : Int)))))))))
    else
     some (.done (.next ())))) N (0 : Int))
  fun (_s57 : Unit) =>
   (andThen
    (loopM (fun (b : Int) =>
     (if b < (List.length p0 : Int) then
      (andThen
       (loopM (fun (d : Int) =>
        (if d < b then
         ck ((0 : Int) ≤ b ∧ b < (List.length p0 : Int)) (
          ck ((0 : Int) ≤ d ∧ d < (List.length p0 : Int)) (
           (if ((ix p0 b).ID) = ((ix p0 d).ID) then
            some (.done (.done (.done (.done ((6 : Int))))))
           else
            ck (I64 (d + (1 : Int))) (
             some (.next (d + (1 : Int)))))))
        else
         some (.done (.next ())))) N (0 : Int))
      fun (_s376 : Unit) =>
       ck (I64 (b + (1 : Int))) (
        some (.next (b + (1 : Int)))))
     else
      some (.done (.next ())))) N (0 : Int))
   fun (_s254 : Unit) =>
    some ((0 : Int)))))
set_option maxHeartbeats 2000000 in
set_option maxRecDepth 20000 in
theorem m_recyclingref13_Check_ok (N : Nat) (w0 : World) (p0 : (List ApiContainer)) (p1 : Int) (p2 : Int) (b : Option Addr) (d : Nat) (e : Nat) (g : RdE w0 5 encApiContainer b p0) (i : SW b d e (List.length p0)) (r : Int) (hr : m_recyclingref13_Check N p0 p1 p2 = some r) :
  Ret Tryz.prog 29 [.slice b d e, .int .i64 p1, .int .i64 p2] w0 (fun (r : Int) (_u : Unit) => .int .i64 r) (fun (_r : Int) (_u : Unit) => []) r := by
 refine calls_v (n := 83) r hr Tryz.func29 ?_
 unfold m_recyclingref13_Check
 refine sr <| la 1 ((6, .int .i64 _) :: _) rfl <| nn <| cm_seq <| sr <| la 1 ((11, .slice _ _ _) :: _) rfl <| v_ 12 (fun _ _ => op_lenN rfl (by kernel_rfl) i.2.2) <| la 1 ((13, .bool _) :: _) rfl <| nn <| cm_cond (by kernel_rfl) rfl (fun h5 => ?_) (fun h5 => ?_)
 ·refine sr <| la 1 ((6, .int .i64 _) :: _) rfl <| nn <| cm_ret <| xm_thenR ?_
  exact xm_retT rfl (by kernel_rfl) (show _ = Value.int .i64 _ from rfl) fun w1 c1 => ⟨(), rfl, hsub [] (by kernel_rfl) rfl w1 c1⟩
 ·refine sk <| cm_join (σ := Unit) (ξ := Unit) (fun M O => [(0, .slice b d e)]) (fun M O => []) ?_ ?_
  ·refine sr <| la 1 ((14, .slice _ _ _) :: _) rfl <| v_ 15 (fun _ _ => op_lenN rfl (by kernel_rfl) i.2.2) <| la 1 ((16, .int .i64 _) :: _) rfl <| nn <| cm_block <| cm_loop (σ := Int) (ξ := Unit) (fun a Q => [(0, .slice b d e), (1, .int .i64 p1), (2, .int .i64 p2), (14, .slice b d e), (15, .int .i64 (List.length p0 : Int)), (16, .int .i64 a)]) (fun a Q => []) () ?_ ?_ ?_
   ·exact sq
   ·exact sh []
   intro a Q
   refine sr <| la 1 ((17, .bool _) :: _) rfl <| nn <| cm_seq <| cm_cond (by kernel_rfl) rfl (fun a6 => ?_) (fun a6 => ?_)
   ·refine sk <| cm_seq <| cm_block <| sr <| lm_ck (fun t => ?_)
    refine v_ 18 (fun _ c1 => oI 5 rfl rfl ((g.old c1).addr t.1 t.2) i.2.2 t) <| v_ 19 (fun _ c1 => oR [.string ((ix p0 a).ID), .int .i64 ((ix p0 a).Kind), .int .i64 ((ix p0 a).Litres), .int .i64 ((ix p0 a).Grams), .int .i64 ((ix p0 a).Node)] ((g.old c1).row t.1 t.2)) <| lm_alloc 8 [.string (⟨#[]⟩ : ByteArray), .int .i64 0, .int .i64 0, .int .i64 0, .int .i64 0] (v := .agg #[.string (⟨#[]⟩ : ByteArray), .int .i64 0, .int .i64 0, .int .i64 0, .int .i64 0]) (by kernel_rfl) (by kernel_rfl) rfl ?_
    intro a7
    refine lm_storeA 0 [.string _, .int .i64 _, .int .i64 _, .int .i64 _, .int .i64 _] [_, _, _, _, _] (H' := [blkE _ _ [_, _, _, _, _]]) (by kernel_rfl) rfl rfl (by kernel_rfl) rfl rfl (by kernel_rfl) rfl rfl <| nn <| cm_seq <| sr <| v_ 20 (fun _ _ => oF 0 0 rfl) <| v_ 21 (fun _ c1 => oL (c1.cell 0 (u := .string _) rfl rfl)) <| lm_call 22 (V := (fun (r : Bool) (_u : Unit) => .bool r)) (HR := (fun (_r : Bool) (_u : Unit) => [])) (by kernel_rfl) (fun w1 => op_call (by kernel_rfl)) (fun r1 hr1 w1 c1 => m_recyclingref04_Valid_ok N w1 ((ix p0 a).ID)  r1 hr1) ?_
    intro a8 a9
    refine la 1 ((23, .bool _) :: _) rfl <| nn <| cm_condB (by kernel_rfl) rfl (fun U => ?_) (fun U => ?_)
    ·refine sr <| la 1 ((6, .int .i64 _) :: _) rfl <| nn <| cm_ret <| xm_thenR <| xm_inR <| xm_thenR <| xm_lret <| xm_inR <| xm_lret ?_
     exact xm_retT rfl (by kernel_rfl) (show _ = Value.int .i64 _ from rfl) fun w1 c1 => ⟨(), rfl, hsub [] (by kernel_rfl) rfl w1 c1⟩
    ·refine sk <| cm_seq <| cm_seq <| cm_cutE [(32, .bool ((decide ((ix p0 a).Kind < 0)) || (decide (p1 ≤ (ix p0 a).Kind))))] ?_ ?_
     ·refine q_ 24 (fun _ _ => oF 1 1 rfl) <| q_ 25 (fun _ c1 => oL (c1.cell 0 (u := .int .i64 _) rfl rfl)) <| qd 26 (fun _ _ => op_lss rfl rfl) (fun x => ?_) (fun x => ?_)
      ·refine qa 6 ((32, .bool true) :: (31, undef) :: (30, undef) :: (29, undef) :: (28, undef) :: (27, .bool true) :: _) rfl ?_
       exact leaf_q (sub_out 9 _ rfl (by kernel_rfl) ⟨(congrArg Value.bool (by rw [decide_eq_true x] <;> rfl)), trivial⟩)
      ·refine qa 1 ((27, .bool false) :: _) rfl <| q_ 28 (fun _ _ => oF 1 1 rfl) <| q_ 29 (fun _ c1 => oL (c1.cell 0 (u := .int .i64 _) rfl rfl)) <| qa 3 ((32, .bool _) :: (31, .bool _) :: (30, .int .i64 _) :: _) rfl ?_
       exact leaf_q (sub_out 9 _ rfl (by kernel_rfl) ⟨(congrArg Value.bool (by rw [decide_eq_false x] <;> rfl)), trivial⟩)
     refine xm_next <| cm_condB (by kernel_rfl) rfl (fun X => ?_) (fun X => ?_)
     ·refine sr <| la 1 ((6, .int .i64 _) :: _) rfl <| nn <| cm_ret <| xm_thenR <| xm_inR <| xm_thenR <| xm_lret <| xm_inR <| xm_lret ?_
      exact xm_retT rfl (by kernel_rfl) (show _ = Value.int .i64 _ from rfl) fun w1 c1 => ⟨(), rfl, hsub [] (by kernel_rfl) rfl w1 c1⟩
     ·refine sk <| cm_seq <| cm_seq <| cm_cutE [(50, .bool ((((decide ((ix p0 a).Litres < 1)) || (decide (40000 < (ix p0 a).Litres))) || (decide ((ix p0 a).Grams < 1))) || (decide (1073741824 < (ix p0 a).Grams))))] ?_ ?_
      ·refine q_ 33 (fun _ _ => oF 2 2 rfl) <| q_ 34 (fun _ c1 => oL (c1.cell 0 (u := .int .i64 _) rfl rfl)) <| qd 35 (fun _ _ => op_lss rfl rfl) (fun j => ?_) (fun j => ?_)
       ·refine qa 15 ((50, .bool true) :: (49, undef) :: (48, undef) :: (47, undef) :: (46, .bool true) :: (45, .bool true) :: (44, undef) :: (43, undef) :: (42, undef) :: (41, .bool true) :: (40, .bool true) :: (39, undef) :: (38, undef) :: (37, undef) :: (36, .bool true) :: _) rfl ?_
        exact leaf_q (sub_out 18 _ rfl (by kernel_rfl) ⟨(congrArg Value.bool (by rw [decide_eq_true j] <;> rfl)), trivial⟩)
       ·refine qa 1 ((36, .bool false) :: _) rfl <| q_ 37 (fun _ _ => oF 2 2 rfl) <| q_ 38 (fun _ c1 => oL (c1.cell 0 (u := .int .i64 _) rfl rfl)) <| qd 39 (fun _ _ => op_gtr rfl rfl) (fun q => ?_) (fun q => ?_)
        ·refine qa 11 ((50, .bool true) :: (49, undef) :: (48, undef) :: (47, undef) :: (46, .bool true) :: (45, .bool true) :: (44, undef) :: (43, undef) :: (42, undef) :: (41, .bool true) :: (40, .bool true) :: _) rfl ?_
         exact leaf_q (sub_out 18 _ rfl (by kernel_rfl) ⟨(congrArg Value.bool (by rw [decide_eq_false j, decide_eq_true q] <;> rfl)), trivial⟩)
        ·refine qa 2 ((41, .bool false) :: (40, .bool false) :: _) rfl <| q_ 42 (fun _ _ => oF 3 3 rfl) <| q_ 43 (fun _ c1 => oL (c1.cell 0 (u := .int .i64 _) rfl rfl)) <| qd 44 (fun _ _ => op_lss rfl rfl) (fun y => ?_) (fun y => ?_)
         ·refine qa 6 ((50, .bool true) :: (49, undef) :: (48, undef) :: (47, undef) :: (46, .bool true) :: (45, .bool true) :: _) rfl ?_
          exact leaf_q (sub_out 18 _ rfl (by kernel_rfl) ⟨(congrArg Value.bool (by rw [decide_eq_false j, decide_eq_false q, decide_eq_true y] <;> rfl)), trivial⟩)
         ·refine qa 2 ((46, .bool false) :: (45, .bool false) :: _) rfl <| q_ 47 (fun _ _ => oF 3 3 rfl) <| q_ 48 (fun _ c1 => oL (c1.cell 0 (u := .int .i64 _) rfl rfl)) <| qa 2 ((50, .bool _) :: (49, .bool _) :: _) rfl ?_
          exact leaf_q (sub_out 18 _ rfl (by kernel_rfl) ⟨(congrArg Value.bool (by rw [decide_eq_false j, decide_eq_false q, decide_eq_false y] <;> rfl)), trivial⟩)
      refine xm_next <| cm_condB (by kernel_rfl) rfl (fun Y => ?_) (fun Y => ?_)
      ·refine sr <| la 1 ((6, .int .i64 _) :: _) rfl <| nn <| cm_ret <| xm_thenR <| xm_inR <| xm_thenR <| xm_lret <| xm_inR <| xm_lret ?_
       exact xm_retT rfl (by kernel_rfl) (show _ = Value.int .i64 _ from rfl) fun w1 c1 => ⟨(), rfl, hsub [] (by kernel_rfl) rfl w1 c1⟩
      ·refine sk <| cm_seq <| cm_cutE [(59, .bool ((decide ((ix p0 a).Node < 0)) || (decide (p2 ≤ (ix p0 a).Node))))] ?_ ?_
       ·refine q_ 51 (fun _ _ => oF 4 4 rfl) <| q_ 52 (fun _ c1 => oL (c1.cell 0 (u := .int .i64 _) rfl rfl)) <| qd 53 (fun _ _ => op_lss rfl rfl) (fun z => ?_) (fun z => ?_)
        ·refine qa 6 ((59, .bool true) :: (58, undef) :: (57, undef) :: (56, undef) :: (55, undef) :: (54, .bool true) :: _) rfl ?_
         exact leaf_q (sub_out 9 _ rfl (by kernel_rfl) ⟨(congrArg Value.bool (by rw [decide_eq_true z] <;> rfl)), trivial⟩)
        ·refine qa 1 ((54, .bool false) :: _) rfl <| q_ 55 (fun _ _ => oF 4 4 rfl) <| q_ 56 (fun _ c1 => oL (c1.cell 0 (u := .int .i64 _) rfl rfl)) <| qa 3 ((59, .bool _) :: (58, .bool _) :: (57, .int .i64 _) :: _) rfl ?_
         exact leaf_q (sub_out 9 _ rfl (by kernel_rfl) ⟨(congrArg Value.bool (by rw [decide_eq_false z] <;> rfl)), trivial⟩)
       refine xm_next <| cm_condB (by kernel_rfl) rfl (fun Z => ?_) (fun Z => ?_)
       ·refine sr <| la 1 ((6, .int .i64 _) :: _) rfl <| nn <| cm_ret <| xm_inR <| xm_thenR <| xm_lret <| xm_inR <| xm_lret ?_
        exact xm_retT rfl (by kernel_rfl) (show _ = Value.int .i64 _ from rfl) fun w1 c1 => ⟨(), rfl, hsub [] (by kernel_rfl) rfl w1 c1⟩
       ·refine cm_skip <| xm_inN <| xm_next <| cm_region <| lm_ck (fun a0 => ?_)
        refine v_ 60 (fun _ _ => op_add rfl rfl a0) <| la 1 ((16, .int .i64 _) :: _) rfl <| lm_nil ?_
        exact xm_lnext () sq (sh [])
   ·refine cm_exit <| xm_thenE <| xm_lexit <| xm_here ?_
    exact xm_lnext () sq (sh [])
  intro M O
  refine cm_join (σ := Unit) (ξ := Unit) (fun B C => []) (fun B C => []) ?_ ?_
  ·refine sr <| la 1 ((61, .slice _ _ _) :: _) rfl <| v_ 62 (fun _ _ => op_lenN rfl (by kernel_rfl) i.2.2) <| la 1 ((63, .int .i64 _) :: _) rfl <| nn <| cm_block <| cm_loop (σ := Int) (ξ := Unit) (fun f G => [(0, .slice b d e), (62, .int .i64 (List.length p0 : Int)), (63, .int .i64 f)]) (fun f G => []) () ?_ ?_ ?_
   ·exact sq
   ·exact sh []
   intro f G
   refine sr <| la 1 ((64, .bool _) :: _) rfl <| nn <| cm_seq <| cm_cond (by kernel_rfl) rfl (fun a1 => ?_) (fun a1 => ?_)
   ·refine sk <| cm_join (σ := Unit) (ξ := Unit) (fun J K => [(0, .slice b d e), (62, .int .i64 (List.length p0 : Int)), (63, .int .i64 f)]) (fun J K => []) ?_ ?_
    ·refine cm_block <| sr <| la 2 ((9, .int .i64 _) :: (65, .int .i64 _) :: _) rfl <| nn <| sr <| la 1 ((10, .int .i64 _) :: _) rfl <| nn <| cm_block <| cm_loop (σ := Int) (ξ := Unit) (fun l L => [(0, .slice b d e), (9, .int .i64 f), (10, .int .i64 l), (62, .int .i64 (List.length p0 : Int)), (63, .int .i64 f)]) (fun l L => []) () ?_ ?_ ?_
     ·exact sq
     ·exact sh []
     intro l L
     refine cm_seq <| sr <| la 3 ((68, .bool _) :: (67, .int .i64 _) :: (66, .int .i64 _) :: _) rfl <| nn <| cm_cond (by kernel_rfl) rfl (fun a2 => ?_) (fun a2 => ?_)
     ·refine sk <| cm_seq <| cm_block <| cm_seq <| cm_ck (fun m => ?_)
      refine cm_ck (fun o => ?_)
      refine cm_drawn [(81, .bool (decide (((ix p0 f).ID) = ((ix p0 l).ID))))] (by kernel_rfl) (by kernel_rfl) ?_ ?_
      ·refine qa 2 ((72, .int .i64 _) :: (71, .slice _ _ _) :: _) rfl <| q_ 73 (fun _ c1 => oI 5 rfl rfl ((g.old c1).addr m.1 m.2) i.2.2 m) <| q_ 74 (fun _ _ => op_field0 rfl (by kernel_rfl)) <| q_ 75 (fun _ c1 => oL (v := .string ((ix p0 f).ID)) ((g.old c1).cell0 m.1 m.2 rfl)) <| qa 2 ((77, .int .i64 _) :: (76, .slice _ _ _) :: _) rfl <| q_ 78 (fun _ c1 => oI 5 rfl rfl ((g.old c1).addr o.1 o.2) i.2.2 o) <| q_ 79 (fun _ _ => op_field0 rfl (by kernel_rfl)) <| q_ 80 (fun _ c1 => oL (v := .string ((ix p0 l).ID)) ((g.old c1).cell0 o.1 o.2 rfl)) <| q_ 81 (fun _ _ => op_eqlS rfl rfl) ?_
       exact lq 11
      refine xm_next <| cm_cond (by kernel_rfl) rfl (fun a3 => ?_) (fun a3 => ?_)
      ·refine sr <| la 1 ((6, .int .i64 _) :: _) rfl <| nn <| cm_ret <| xm_inR <| xm_thenR <| xm_lret <| xm_inR <| xm_inR <| xm_lret <| xm_lret <| xm_inR ?_
       refine xm_lret ?_
       exact xm_retT rfl (by kernel_rfl) (show _ = Value.int .i64 _ from rfl) fun w1 c1 => ⟨(), rfl, hsub [] (by kernel_rfl) rfl w1 c1⟩
      ·refine cm_skip <| xm_inN <| xm_next <| cm_region <| la 1 ((69, .int .i64 _) :: _) rfl <| lm_ck (fun a4 => ?_)
       refine v_ 70 (fun _ _ => op_add rfl rfl a4) <| la 1 ((10, .int .i64 _) :: _) rfl <| lm_nil ?_
       exact xm_lnext () sq (sh [])
     ·refine cm_exit <| xm_thenE <| xm_lexit <| xm_here <| xm_inN ?_
      exact xm_lnext () sq (sh [])
    intro J K
    refine cm_region <| lm_ck (fun a5 => ?_)
    refine v_ 82 (fun _ _ => op_add rfl rfl a5) <| la 1 ((63, .int .i64 _) :: _) rfl <| lm_nil ?_
    exact xm_lnext () sq (sh [])
   ·refine cm_exit <| xm_thenE <| xm_lexit <| xm_here ?_
    exact xm_lnext () sub_nil (sh [])
  intro B C
  refine sr <| la 1 ((6, .int .i64 _) :: _) rfl <| nn <| cm_ret ?_
  exact xm_retT rfl (by kernel_rfl) (show _ = Value.int .i64 _ from rfl) fun w1 c1 => ⟨(), rfl, hsub [] (by kernel_rfl) rfl w1 c1⟩
/-- recyclingref14.Window -/
def m_recyclingref14_Window (_N : Nat) (p0 : ApiWindow) : Option (Bool) :=
 some ((((decide (0 ≤ p0.From)) && (decide (p0.From ≤ p0.To))) && (decide (p0.To ≤ 3155760000))))
set_option maxRecDepth 20000 in
theorem m_recyclingref14_Window_ok (N : Nat) (w0 : World) (p0 : ApiWindow)   (r : Bool) (hr : m_recyclingref14_Window N p0 = some r) :
  Ret Tryz.prog 78 [.agg #[.int .i64 p0.From, .int .i64 p0.To]] w0 (fun (r : Bool) (_u : Unit) => .bool r) (fun (_r : Bool) (_u : Unit) => []) r := by
 refine calls_v (n := 18) r hr Tryz.func78 ?_
 unfold m_recyclingref14_Window
 refine sr <| lm_box 1 [.int .i64 _, .int .i64 _] (by kernel_rfl) rfl ?_
 intro b5
 refine la 1 ((2, .bool false) :: _) rfl <| nn <| cm_seq <| cm_cutE [(2, .bool (((decide (0 ≤ p0.From)) && (decide (p0.From ≤ p0.To))) && (decide (p0.To ≤ 3155760000))))] ?_ ?_
 ·refine q_ 3 (fun _ _ => oF 0 0 rfl) <| q_ 4 (fun _ c1 => oL (c1.cell 0 (u := .int .i64 _) rfl rfl)) <| qd 5 (fun _ _ => op_geq rfl rfl) (fun h6 => ?_) (fun h6 => ?_)
  ·refine qa 1 ((6, .bool true) :: _) rfl <| q_ 7 (fun _ _ => oF 0 0 rfl) <| q_ 8 (fun _ c1 => oL (c1.cell 0 (u := .int .i64 _) rfl rfl)) <| q_ 9 (fun _ _ => oF 1 1 rfl) <| q_ 10 (fun _ c1 => oL (c1.cell 0 (u := .int .i64 _) rfl rfl)) <| qd 11 (fun _ _ => op_leq rfl rfl) (fun h7 => ?_) (fun h7 => ?_)
   ·refine qa 2 ((13, .bool true) :: (12, .bool true) :: _) rfl <| q_ 14 (fun _ _ => oF 1 1 rfl) <| q_ 15 (fun _ c1 => oL (c1.cell 0 (u := .int .i64 _) rfl rfl)) <| qa 3 ((2, .bool _) :: (17, .bool _) :: (16, .bool _) :: _) rfl ?_
    exact leaf_q (sub_out 16 _ rfl (by kernel_rfl) ⟨(congrArg Value.bool (by rw [decide_eq_true h6, decide_eq_true h7] <;> rfl)), trivial⟩)
   ·refine qa 7 ((2, .bool false) :: (17, .bool false) :: (16, undef) :: (15, undef) :: (14, undef) :: (13, .bool false) :: (12, .bool false) :: _) rfl ?_
    exact leaf_q (sub_out 16 _ rfl (by kernel_rfl) ⟨(congrArg Value.bool (by rw [decide_eq_true h6, decide_eq_false h7] <;> rfl)), trivial⟩)
  ·refine qa 13 ((2, .bool false) :: (17, .bool false) :: (16, undef) :: (15, undef) :: (14, undef) :: (13, .bool false) :: (12, .bool false) :: (11, undef) :: (10, undef) :: (9, undef) :: (8, undef) :: (7, undef) :: (6, .bool false) :: _) rfl ?_
   exact leaf_q (sub_out 16 _ rfl (by kernel_rfl) ⟨(congrArg Value.bool (by rw [decide_eq_false h6] <;> rfl)), trivial⟩)
 refine xm_next <| cm_ret ?_
 exact xm_retT rfl (by kernel_rfl) (show _ = Value.bool _ from rfl) fun w1 c1 => ⟨(), rfl, hsub [] (by kernel_rfl) rfl w1 c1⟩
/-- recyclingref14.common -/
def m_recyclingref14_common (_N : Nat) (p0 : ApiWindow) (p1 : ApiWindow) : Option (ApiWindow × Bool) :=
 (andThen
  (if p0.From < p1.From then
   some (.next p1.From)
  else
   some (.next p0.From))
 fun (s9 : Int) =>
  (andThen
   (if p1.To < p0.To then
    some (.next p1.To)
   else
    some (.next p0.To))
  fun (a : Int) =>
   some (((ApiWindow.mk s9 a), (decide (s9 < a))))))
set_option maxRecDepth 20000 in
theorem m_recyclingref14_common_ok (N : Nat) (w0 : World) (p0 : ApiWindow) (p1 : ApiWindow)   (r : ApiWindow × Bool) (hr : m_recyclingref14_common N p0 p1 = some r) :
  Ret Tryz.prog 79 [.agg #[.int .i64 p0.From, .int .i64 p0.To], .agg #[.int .i64 p1.From, .int .i64 p1.To]] w0 (fun (r : ApiWindow × Bool) (_u : Unit) => .tuple #[.agg #[.int .i64 r.1.From, .int .i64 r.1.To], .bool r.2]) (fun (_r : ApiWindow × Bool) (_u : Unit) => []) r := by
 refine calls_v (n := 28) r hr Tryz.func79 ?_
 unfold m_recyclingref14_common
 refine sr <| lm_box 2 [.int .i64 _, .int .i64 _] (by kernel_rfl) rfl ?_
 intro b5
 refine lm_box 3 [.int .i64 _, .int .i64 _] (by kernel_rfl) rfl ?_
 intro b6
 refine lm_alloc 4 [.int .i64 0, .int .i64 0] (v := .agg #[.int .i64 0, .int .i64 0]) (by kernel_rfl) (by kernel_rfl) rfl ?_
 intro b7
 refine la 1 ((5, .bool false) :: _) rfl <| nn <| cm_join (σ := Int) (ξ := Unit) (fun s9 e => [(2, .pointer (some ⟨b5, 0, none⟩)), (3, .pointer (some ⟨b6, 0, none⟩)), (4, .pointer (some ⟨b7, 0, none⟩))]) (fun s9 e => [blkE b5 49 [.int .i64 s9, .int .i64 p0.To], blkE b6 49 [.int .i64 p1.From, .int .i64 p1.To], blkE b7 49 [.int .i64 0, .int .i64 0]]) ?_ ?_
 ·refine sr <| v_ 6 (fun _ _ => oF 0 0 rfl) <| v_ 7 (fun _ c1 => oL (c1.cell 1 (u := .int .i64 _) rfl rfl)) <| v_ 8 (fun _ _ => oF 0 0 rfl) <| v_ 9 (fun _ c1 => oL (c1.cell 2 (u := .int .i64 _) rfl rfl)) <| la 1 ((10, .bool _) :: _) rfl <| nn <| cm_cond (by kernel_rfl) rfl (fun i => ?_) (fun i => ?_)
  ·refine cm_region <| v_ 11 (fun _ _ => oF 0 0 rfl) <| v_ 12 (fun _ c1 => oL (c1.cell 1 (u := .int .i64 _) rfl rfl)) <| v_ 13 (fun _ _ => oF 0 0 rfl) <| lm_store1 2 (v := .int .i64 _) (H' := [_, _, blkE _ _ [_, _]]) (by kernel_rfl) rfl rfl (by kernel_rfl) rfl rfl (by kernel_rfl) rfl <| lm_nil ?_
   exact xm_lnext () sq (sh [2, 1, 0])
  ·refine cm_skip ?_
   exact xm_lnext () sq (sh [2, 1, 0])
 intro s9 e
 refine cm_join (σ := Int) (ξ := Unit) (fun b f => [(2, .pointer (some ⟨b5, 0, none⟩)), (4, .pointer (some ⟨b7, 0, none⟩))]) (fun b f => [blkE b5 49 [.int .i64 s9, .int .i64 b], blkE b7 49 [.int .i64 0, .int .i64 0]]) ?_ ?_
 ·refine sr <| v_ 14 (fun _ _ => oF 1 1 rfl) <| v_ 15 (fun _ c1 => oL (c1.cell 1 (u := .int .i64 _) rfl rfl)) <| v_ 16 (fun _ _ => oF 1 1 rfl) <| v_ 17 (fun _ c1 => oL (c1.cell 0 (u := .int .i64 _) rfl rfl)) <| la 1 ((18, .bool _) :: _) rfl <| nn <| cm_cond (by kernel_rfl) rfl (fun j => ?_) (fun j => ?_)
  ·refine cm_region <| v_ 19 (fun _ _ => oF 1 1 rfl) <| v_ 20 (fun _ c1 => oL (c1.cell 1 (u := .int .i64 _) rfl rfl)) <| v_ 21 (fun _ _ => oF 1 1 rfl) <| lm_store1 0 (v := .int .i64 _) (H' := [blkE _ _ [_, _], _, _]) (by kernel_rfl) rfl rfl (by kernel_rfl) rfl rfl (by kernel_rfl) rfl <| lm_nil ?_
   exact xm_lnext () sq (sh [0, 2])
  ·refine cm_skip ?_
   exact xm_lnext () sq (sh [0, 2])
 intro b f
 refine cm_seq <| cm_held (ξ := Unit) (fun g => [(4, .pointer (some ⟨b7, 0, none⟩)), (5, .bool (decide (s9 < b)))]) (fun g => [blkE b7 49 [.int .i64 s9, .int .i64 b]]) [blkE b5 49 [.int .i64 s9, .int .i64 b]] 8 (by kernel_rfl) (by rfl) (hsub [0] (by kernel_rfl) (by rfl)) ?_ ?_
 ·intro l a
  refine wh_take 0 22 rfl (by kernel_rfl) (by kernel_rfl) (fun w2 c2 => (op_loadR [.int .i64 _, .int .i64 _] rfl (by kernel_rfl) (c2.cells 0 rfl rfl))) (hsub [0] (by kernel_rfl) rfl _ a) <| wh_take 1 23 rfl (by kernel_rfl) (by kernel_rfl) (fun w2 c2 => (op_fieldL (m := 0) (k := 0) rfl (by kernel_rfl) rfl)) (hsub [0] (by kernel_rfl) rfl _ a) <| wh_take 2 24 rfl (by kernel_rfl) (by kernel_rfl) (fun w2 c2 => (op_load rfl (by kernel_rfl) (c2.cell 0 (u := .int .i64 _) rfl rfl))) (hsub [0] (by kernel_rfl) rfl _ a) <| wh_take 3 25 rfl (by kernel_rfl) (by kernel_rfl) (fun w2 c2 => (op_fieldL (m := 1) (k := 1) rfl (by kernel_rfl) rfl)) (hsub [0] (by kernel_rfl) rfl _ a) <| wh_take 4 26 rfl (by kernel_rfl) (by kernel_rfl) (fun w2 c2 => (op_load rfl (by kernel_rfl) (c2.cell 0 (u := .int .i64 _) rfl rfl))) (hsub [0] (by kernel_rfl) rfl _ a) <| wh_take 5 27 rfl (by kernel_rfl) (by kernel_rfl) (fun w2 c2 => (op_lss rfl rfl)) (hsub [0] (by kernel_rfl) rfl _ a) <| wh_ready [6] (by kernel_rfl) rfl ⟨?_, trivial⟩
  refine ws_storeA 1 [.int .i64 _, .int .i64 _] [_, _] rfl (by kernel_rfl) rfl rfl (by kernel_rfl) rfl rfl (by kernel_rfl) rfl (H' := [_, blkE _ _ [_, _]]) rfl a ?_
  intro o d
  refine ⟨(hsub [0] (by kernel_rfl) rfl _ d), ?_⟩
  refine wh_take 7 5 rfl (by kernel_rfl) (by kernel_rfl) (fun w2 c2 => (op_assign (v := .bool _) rfl)) (hsub [0] (by kernel_rfl) rfl _ d) ?_
  exact wh_done () (by kernel_rfl) sq (hsub [1] (by kernel_rfl) rfl _ d)
 intro g
 refine xm_next <| cm_ret ?_
 exact xm_retCT rfl (by kernel_rfl) (show _ = Value.pointer (some ⟨_, 0, none⟩) from rfl) (by kernel_rfl) (fun w1 c1 => c1.cells 0 (ds := [.int .i64 _, .int .i64 _]) rfl rfl) (by kernel_rfl) (show _ = Value.bool _ from rfl) fun w1 c1 => ⟨(), rfl, hsub [] (by kernel_rfl) rfl w1 c1⟩
/-- recyclingref14.Check -/
def m_recyclingref14_Check (N : Nat) (p0 : (List ApiHousehold)) (p1 : Int) (p2 : (List ApiAssign)) : Option (Int) :=
 (if ((decide (p1 < 0)) || (decide (256 < p1))) = true then
  some ((1 : Int))
 else
  (if 256 < (List.length p0 : Int) then
   some ((8 : Int))
  else
   (andThen
    (loopM (fun (e : Int) =>
     (if e < (List.length p0 : Int) then
      ck ((0 : Int) ≤ e ∧ e < (List.length p0 : Int)) (
       Option.bind (m_recyclingref04_Valid N ((ix p0 e).ID)) fun l => (if (!l) = true then
        some (.done (.done ((5 : Int))))
       else
        ck ((0 : Int) ≤ e ∧ e < (List.length p0 : Int)) (
         ck ((!(decide ((ix p0 e).Persons < 1))) = true → (0 : Int) ≤ e ∧ e < (List.length p0 : Int)) (
          (if ((decide ((ix p0 e).Persons < 1)) || (decide (100 < (ix p0 e).Persons))) = true then
           some (.done (.done ((1 : Int))))
          else
           ck (I64 (e + (1 : Int))) (
            some (.next (e + (1 : Int)))))))))
     else
      some (.done (.next ())))) N (0 : Int))
   fun (_s44 : Unit) =>
    (andThen
     (loopM (fun (f : Int) =>
      (if f < (List.length p0 : Int) then
       (andThen
        (loopM (fun (g : Int) =>
         (if g < f then
          ck ((0 : Int) ≤ f ∧ f < (List.length p0 : Int)) (
           ck ((0 : Int) ≤ g ∧ g < (List.length p0 : Int)) (
            (if ((ix p0 f).ID) = ((ix p0 g).ID) then
             some (.done (.done (.done (.done ((6 : Int))))))
            else
             ck (I64 (g + (1 : Int))) (
              some (.next (g + (1 : Int)))))))
         else
          some (.done (.next ())))) N (0 : Int))
       fun (_s348 : Unit) =>
        ck (I64 (f + (1 : Int))) (
         some (.next (f + (1 : Int)))))
      else
       some (.done (.next ())))) N (0 : Int))
    fun (_s226 : Unit) =>
     (if 512 < (List.length p2 : Int) then
      some ((8 : Int))
     else
      (andThen
       (loopM (fun (a : Int) =>
        (if a < (List.length p2 : Int) then
         ck ((0 : Int) ≤ a ∧ a < (List.length p2 : Int)) (
          ck ((!(decide ((ix p2 a).Container < 0))) = true → (0 : Int) ≤ a ∧ a < (List.length p2 : Int)) (
           ck ((!((decide ((ix p2 a).Container < 0)) || (decide (p1 ≤ (ix p2 a).Container)))) = true → (0 : Int) ≤ a ∧ a < (List.length p2 : Int)) (
            ck ((!(((decide ((ix p2 a).Container < 0)) || (decide (p1 ≤ (ix p2 a).Container))) || (decide ((ix p2 a).Household < 0)))) = true → (0 : Int) ≤ a ∧ a < (List.length p2 : Int)) (
             (if ((((decide ((ix p2 a).Container < 0)) || (decide (p1 ≤ (ix p2 a).Container))) || (decide ((ix p2 a).Household < 0))) || (decide ((List.length p0 : Int) ≤ (ix p2 a).Household))) = true then
              some (.done (.done ((7 : Int))))
             else
              ck ((0 : Int) ≤ a ∧ a < (List.length p2 : Int)) (
               Option.bind (m_recyclingref14_Window N ((ix p2 a).When)) fun j => (if (!j) = true then
                some (.done (.done ((1 : Int))))
               else
                ck (I64 (a + (1 : Int))) (
                 some (.next (a + (1 : Int)))))))))))
        else
         some (.done (.next ())))) N (0 : Int))
      fun (_s421 : Unit) =>
       (andThen
        (loopM (fun (b : Int) =>
         (if b < (List.length p2 : Int) then
          (andThen
           (loopM (fun (d : Int) =>
            (if d < b then
             ck ((0 : Int) ≤ b ∧ b < (List.length p2 : Int)) (
              ck ((0 : Int) ≤ d ∧ d < (List.length p2 : Int)) (
               Option.bind (m_recyclingref14_common N ((ix p2 b).When) ((ix p2 d).When)) fun i => ck (i.2 = true → (0 : Int) ≤ b ∧ b < (List.length p2 : Int)) (
                ck (i.2 = true → (0 : Int) ≤ d ∧ d < (List.length p2 : Int)) (
                 (if (i.2 && (decide ((ix p2 b).Container = (ix p2 d).Container))) = true then
                  some (.done (.done (.done (.done ((12 : Int))))))
                 else
                  ck (I64 (d + (1 : Int))) (
                   some (.next (d + (1 : Int)))))))))
            else
             some (.done (.next ())))) N (0 : Int))
          fun (_s2255 : Unit) =>
           ck (I64 (b + (1 : Int))) (
            some (.next (b + (1 : Int)))))
         else
          some (.done (.next ())))) N (0 : Int))
       fun (_s1443 : Unit) =>
        some ((0 : Int)))))))))
set_option maxHeartbeats 2000000 in
set_option maxRecDepth 20000 in
theorem m_recyclingref14_Check_ok (N : Nat) (w0 : World) (p0 : (List ApiHousehold)) (p1 : Int) (p2 : (List ApiAssign)) (G : Option Addr) (J : Nat) (K : Nat) (i : Option Addr) (l : Nat) (q : Nat) (z : RdE w0 2 encApiHousehold G p0) (C : SW G J K (List.length p0)) (a : RdE w0 4 encApiAssign i p2) (e : SW i l q (List.length p2)) (r : Int) (hr : m_recyclingref14_Check N p0 p1 p2 = some r) :
  Ret Tryz.prog 30 [.slice G J K, .int .i64 p1, .slice i l q] w0 (fun (r : Int) (_u : Unit) => .int .i64 r) (fun (_r : Int) (_u : Unit) => []) r := by
 refine calls_v (n := 161) r hr Tryz.func30 ?_
 unfold m_recyclingref14_Check
 refine sr <| la 1 ((6, .int .i64 _) :: _) rfl <| nn <| cm_seq <| cm_seq <| cm_cutE [(20, .bool ((decide (p1 < 0)) || (decide (256 < p1))))] ?_ ?_
 ·refine qa 1 ((15, .int .i64 _) :: _) rfl <| qd 16 (fun _ _ => op_lss rfl rfl) (fun h5 => ?_) (fun h5 => ?_)
  ·refine qa 4 ((20, .bool true) :: (19, undef) :: (18, undef) :: (17, .bool true) :: _) rfl ?_
   exact leaf_q (sub_out 6 _ rfl (by kernel_rfl) ⟨(congrArg Value.bool (by rw [decide_eq_true h5] <;> rfl)), trivial⟩)
  ·refine qa 4 ((20, .bool _) :: (19, .bool _) :: (18, .int .i64 _) :: (17, .bool false) :: _) rfl ?_
   exact leaf_q (sub_out 6 _ rfl (by kernel_rfl) ⟨(congrArg Value.bool (by rw [decide_eq_false h5] <;> rfl)), trivial⟩)
 refine xm_next <| cm_condB (by kernel_rfl) rfl (fun h6 => ?_) (fun h6 => ?_)
 ·refine sr <| la 1 ((6, .int .i64 _) :: _) rfl <| nn <| cm_ret <| xm_thenR ?_
  exact xm_retT rfl (by kernel_rfl) (show _ = Value.int .i64 _ from rfl) fun w1 c1 => ⟨(), rfl, hsub [] (by kernel_rfl) rfl w1 c1⟩
 ·refine sk <| cm_seq <| sr <| la 1 ((21, .slice _ _ _) :: _) rfl <| v_ 22 (fun _ _ => op_lenN rfl (by kernel_rfl) C.2.2) <| la 1 ((23, .bool _) :: _) rfl <| nn <| cm_cond (by kernel_rfl) rfl (fun h7 => ?_) (fun h7 => ?_)
  ·refine sr <| la 1 ((6, .int .i64 _) :: _) rfl <| nn <| cm_ret <| xm_thenR ?_
   exact xm_retT rfl (by kernel_rfl) (show _ = Value.int .i64 _ from rfl) fun w1 c1 => ⟨(), rfl, hsub [] (by kernel_rfl) rfl w1 c1⟩
  ·refine sk <| cm_join (σ := Unit) (ξ := Unit) (fun b6 b7 => [(0, .slice G J K), (1, .int .i64 p1), (2, .slice i l q)]) (fun b6 b7 => []) ?_ ?_
   ·refine sr <| la 1 ((7, .int .i64 _) :: _) rfl <| nn <| cm_block <| cm_loop (σ := Int) (ξ := Unit) (fun Y b8 => [(0, .slice G J K), (1, .int .i64 p1), (2, .slice i l q), (7, .int .i64 Y)]) (fun Y b8 => []) () ?_ ?_ ?_
    ·exact sq
    ·exact sh []
    intro Y b8
    refine cm_seq <| sr <| la 2 ((25, .slice _ _ _) :: (24, .int .i64 _) :: _) rfl <| v_ 26 (fun _ _ => op_lenN rfl (by kernel_rfl) C.2.2) <| la 1 ((27, .bool _) :: _) rfl <| nn <| cm_cond (by kernel_rfl) rfl (fun bj => ?_) (fun bj => ?_)
    ·refine sk <| cm_seq <| cm_block <| cm_seq <| sr <| la 2 ((31, .int .i64 _) :: (30, .slice _ _ _) :: _) rfl <| lm_ck (fun ad => ?_)
     refine v_ 32 (fun _ c1 => oI 2 rfl rfl ((z.old c1).addr ad.1 ad.2) C.2.2 ad) <| v_ 33 (fun _ _ => op_field0 rfl (by kernel_rfl)) <| v_ 34 (fun _ c1 => oL (v := .string ((ix p0 Y).ID)) ((z.old c1).cell0 ad.1 ad.2 rfl)) <| lm_call 35 (V := (fun (r : Bool) (_u : Unit) => .bool r)) (HR := (fun (_r : Bool) (_u : Unit) => [])) (by kernel_rfl) (fun w1 => op_call (by kernel_rfl)) (fun r1 hr1 w1 c1 => m_recyclingref04_Valid_ok N w1 ((ix p0 Y).ID)  r1 hr1) ?_
     intro c3 c4
     refine la 1 ((36, .bool _) :: _) rfl <| nn <| cm_condB (by kernel_rfl) rfl (fun bk => ?_) (fun bk => ?_)
     ·refine sr <| la 1 ((6, .int .i64 _) :: _) rfl <| nn <| cm_ret <| xm_thenR <| xm_inR <| xm_thenR <| xm_lret <| xm_inR <| xm_lret ?_
      exact xm_retT rfl (by kernel_rfl) (show _ = Value.int .i64 _ from rfl) fun w1 c1 => ⟨(), rfl, hsub [] (by kernel_rfl) rfl w1 c1⟩
     ·refine sk <| cm_seq <| cm_ck (fun ae => ?_)
      refine cm_ck (fun af => ?_)
      refine cm_cutE [(50, .bool ((decide ((ix p0 Y).Persons < 1)) || (decide (100 < (ix p0 Y).Persons))))] ?_ ?_
      ·refine qa 2 ((38, .int .i64 _) :: (37, .slice _ _ _) :: _) rfl <| q_ 39 (fun _ c1 => oI 2 rfl rfl ((z.old c1).addr ae.1 ae.2) C.2.2 ae) <| q_ 40 (fun _ _ => op_field (m := 1) rfl (by kernel_rfl)) <| q_ 41 (fun _ c1 => oL (v := .int .i64 ((ix p0 Y).Persons)) ((z.old c1).cell (j := 1) ae.1 ae.2 rfl)) <| qd 42 (fun _ _ => op_lss rfl rfl) (fun a1 => ?_) (fun a1 => ?_)
       ·refine qa 8 ((50, .bool true) :: (49, undef) :: (48, undef) :: (47, undef) :: (46, undef) :: (45, undef) :: (44, undef) :: (43, .bool true) :: _) rfl ?_
        exact leaf_q (sub_out 14 _ rfl (by kernel_rfl) ⟨(congrArg Value.bool (by rw [decide_eq_true a1] <;> rfl)), trivial⟩)
       ·refine qa 3 ((45, .int .i64 _) :: (44, .slice _ _ _) :: (43, .bool false) :: _) rfl <| q_ 46 (fun _ c1 => oI 2 rfl rfl ((z.old c1).addr (af (by rw [decide_eq_false a1] <;> rfl)).1 (af (by rw [decide_eq_false a1] <;> rfl)).2) C.2.2 (af (by rw [decide_eq_false a1] <;> rfl))) <| q_ 47 (fun _ _ => op_field (m := 1) rfl (by kernel_rfl)) <| q_ 48 (fun _ c1 => oL (v := .int .i64 ((ix p0 Y).Persons)) ((z.old c1).cell (j := 1) (af (by rw [decide_eq_false a1] <;> rfl)).1 (af (by rw [decide_eq_false a1] <;> rfl)).2 rfl)) <| qa 2 ((50, .bool _) :: (49, .bool _) :: _) rfl ?_
        exact leaf_q (sub_out 14 _ rfl (by kernel_rfl) ⟨(congrArg Value.bool (by rw [decide_eq_false a1] <;> rfl)), trivial⟩)
      refine xm_next <| cm_condB (by kernel_rfl) rfl (fun bl => ?_) (fun bl => ?_)
      ·refine sr <| la 1 ((6, .int .i64 _) :: _) rfl <| nn <| cm_ret <| xm_inR <| xm_thenR <| xm_lret <| xm_inR <| xm_lret ?_
       exact xm_retT rfl (by kernel_rfl) (show _ = Value.int .i64 _ from rfl) fun w1 c1 => ⟨(), rfl, hsub [] (by kernel_rfl) rfl w1 c1⟩
      ·refine cm_skip <| xm_inN <| xm_next <| cm_region <| la 1 ((28, .int .i64 _) :: _) rfl <| lm_ck (fun bm => ?_)
       refine v_ 29 (fun _ _ => op_add rfl rfl bm) <| la 1 ((7, .int .i64 _) :: _) rfl <| lm_nil ?_
       exact xm_lnext () sq (sh [])
    ·refine cm_exit <| xm_thenE <| xm_lexit <| xm_here ?_
     exact xm_lnext () sq (sh [])
   intro b6 b7
   refine cm_join (σ := Unit) (ξ := Unit) (fun aq ar => [(0, .slice G J K), (1, .int .i64 p1), (2, .slice i l q)]) (fun aq ar => []) ?_ ?_
   ·refine sr <| la 1 ((8, .int .i64 _) :: _) rfl <| nn <| cm_block <| cm_loop (σ := Int) (ξ := Unit) (fun X au => [(0, .slice G J K), (1, .int .i64 p1), (2, .slice i l q), (8, .int .i64 X)]) (fun X au => []) () ?_ ?_ ?_
    ·exact sq
    ·exact sh []
    intro X au
    refine cm_seq <| sr <| la 2 ((52, .slice _ _ _) :: (51, .int .i64 _) :: _) rfl <| v_ 53 (fun _ _ => op_lenN rfl (by kernel_rfl) C.2.2) <| la 1 ((54, .bool _) :: _) rfl <| nn <| cm_cond (by kernel_rfl) rfl (fun b9 => ?_) (fun b9 => ?_)
    ·refine sk <| cm_join (σ := Unit) (ξ := Unit) (fun av aw => [(0, .slice G J K), (1, .int .i64 p1), (2, .slice i l q), (8, .int .i64 X)]) (fun av aw => []) ?_ ?_
     ·refine cm_block <| sr <| la 1 ((9, .int .i64 _) :: _) rfl <| nn <| cm_block <| cm_loop (σ := Int) (ξ := Unit) (fun a3 ax => [(0, .slice G J K), (1, .int .i64 p1), (2, .slice i l q), (8, .int .i64 X), (9, .int .i64 a3)]) (fun a3 ax => []) () ?_ ?_ ?_
      ·exact sq
      ·exact sh []
      intro a3 ax
      refine cm_seq <| sr <| la 3 ((59, .bool _) :: (58, .int .i64 _) :: (57, .int .i64 _) :: _) rfl <| nn <| cm_cond (by kernel_rfl) rfl (fun ba => ?_) (fun ba => ?_)
      ·refine sk <| cm_seq <| cm_block <| cm_seq <| cm_ck (fun a4 => ?_)
       refine cm_ck (fun a5 => ?_)
       refine cm_drawn [(72, .bool (decide (((ix p0 X).ID) = ((ix p0 a3).ID))))] (by kernel_rfl) (by kernel_rfl) ?_ ?_
       ·refine qa 2 ((63, .int .i64 _) :: (62, .slice _ _ _) :: _) rfl <| q_ 64 (fun _ c1 => oI 2 rfl rfl ((z.old c1).addr a4.1 a4.2) C.2.2 a4) <| q_ 65 (fun _ _ => op_field0 rfl (by kernel_rfl)) <| q_ 66 (fun _ c1 => oL (v := .string ((ix p0 X).ID)) ((z.old c1).cell0 a4.1 a4.2 rfl)) <| qa 2 ((68, .int .i64 _) :: (67, .slice _ _ _) :: _) rfl <| q_ 69 (fun _ c1 => oI 2 rfl rfl ((z.old c1).addr a5.1 a5.2) C.2.2 a5) <| q_ 70 (fun _ _ => op_field0 rfl (by kernel_rfl)) <| q_ 71 (fun _ c1 => oL (v := .string ((ix p0 a3).ID)) ((z.old c1).cell0 a5.1 a5.2 rfl)) <| q_ 72 (fun _ _ => op_eqlS rfl rfl) ?_
        exact lq 11
       refine xm_next <| cm_cond (by kernel_rfl) rfl (fun bb => ?_) (fun bb => ?_)
       ·refine sr <| la 1 ((6, .int .i64 _) :: _) rfl <| nn <| cm_ret <| xm_inR <| xm_thenR <| xm_lret <| xm_inR <| xm_inR <| xm_lret <| xm_lret <| xm_inR ?_
        refine xm_lret ?_
        exact xm_retT rfl (by kernel_rfl) (show _ = Value.int .i64 _ from rfl) fun w1 c1 => ⟨(), rfl, hsub [] (by kernel_rfl) rfl w1 c1⟩
       ·refine cm_skip <| xm_inN <| xm_next <| cm_region <| la 1 ((60, .int .i64 _) :: _) rfl <| lm_ck (fun bc => ?_)
        refine v_ 61 (fun _ _ => op_add rfl rfl bc) <| la 1 ((9, .int .i64 _) :: _) rfl <| lm_nil ?_
        exact xm_lnext () sq (sh [])
      ·refine cm_exit <| xm_thenE <| xm_lexit <| xm_here <| xm_inN ?_
       exact xm_lnext () sq (sh [])
     intro av aw
     refine cm_region <| la 1 ((55, .int .i64 _) :: _) rfl <| lm_ck (fun bd => ?_)
     refine v_ 56 (fun _ _ => op_add rfl rfl bd) <| la 1 ((8, .int .i64 _) :: _) rfl <| lm_nil ?_
     exact xm_lnext () sq (sh [])
    ·refine cm_exit <| xm_thenE <| xm_lexit <| xm_here ?_
     exact xm_lnext () sq (sh [])
   intro aq ar
   refine cm_seq <| sr <| la 1 ((73, .slice _ _ _) :: _) rfl <| v_ 74 (fun _ _ => op_lenN rfl (by kernel_rfl) e.2.2) <| la 1 ((75, .bool _) :: _) rfl <| nn <| cm_cond (by kernel_rfl) rfl (fun be => ?_) (fun be => ?_)
   ·refine sr <| la 1 ((6, .int .i64 _) :: _) rfl <| nn <| cm_ret <| xm_thenR ?_
    exact xm_retT rfl (by kernel_rfl) (show _ = Value.int .i64 _ from rfl) fun w1 c1 => ⟨(), rfl, hsub [] (by kernel_rfl) rfl w1 c1⟩
   ·refine sk <| cm_join (σ := Unit) (ξ := Unit) (fun ay az => [(2, .slice i l q)]) (fun ay az => []) ?_ ?_
    ·refine sr <| la 1 ((10, .int .i64 _) :: _) rfl <| nn <| cm_block <| cm_loop (σ := Int) (ξ := Unit) (fun t b0 => [(0, .slice G J K), (1, .int .i64 p1), (2, .slice i l q), (10, .int .i64 t)]) (fun t b0 => []) () ?_ ?_ ?_
     ·exact sq
     ·exact sh []
     intro t b0
     refine cm_seq <| sr <| la 2 ((77, .slice _ _ _) :: (76, .int .i64 _) :: _) rfl <| v_ 78 (fun _ _ => op_lenN rfl (by kernel_rfl) e.2.2) <| la 1 ((79, .bool _) :: _) rfl <| nn <| cm_cond (by kernel_rfl) rfl (fun bf => ?_) (fun bf => ?_)
     ·refine sk <| cm_seq <| cm_block <| cm_seq <| cm_seq <| cm_ck (fun a6 => ?_)
      refine cm_ck (fun a7 => ?_)
      refine cm_ck (fun a8 => ?_)
      refine cm_ck (fun a9 => ?_)
      refine cm_cutE [(114, .bool ((((decide ((ix p2 t).Container < 0)) || (decide (p1 ≤ (ix p2 t).Container))) || (decide ((ix p2 t).Household < 0))) || (decide ((List.length p0 : Int) ≤ (ix p2 t).Household))))] ?_ ?_
      ·refine qa 2 ((83, .int .i64 _) :: (82, .slice _ _ _) :: _) rfl <| q_ 84 (fun _ c1 => oI 4 rfl rfl ((a.old c1).addr a6.1 a6.2) e.2.2 a6) <| q_ 85 (fun _ _ => op_field0 rfl (by kernel_rfl)) <| q_ 86 (fun _ c1 => oL (v := .int .i64 ((ix p2 t).Container)) ((a.old c1).cell0 a6.1 a6.2 rfl)) <| qd 87 (fun _ _ => op_lss rfl rfl) (fun b => ?_) (fun b => ?_)
       ·refine qa 27 ((114, .bool true) :: (113, undef) :: (112, undef) :: (111, undef) :: (110, undef) :: (109, undef) :: (108, undef) :: (107, undef) :: (106, undef) :: (105, .bool true) :: (104, .bool true) :: (103, undef) :: (102, undef) :: (101, undef) :: (100, undef) :: (99, undef) :: (98, undef) :: (97, .bool true) :: (96, .bool true) :: (95, undef) :: (94, undef) :: (93, undef) :: (92, undef) :: (91, undef) :: (90, undef) :: (89, undef) :: (88, .bool true) :: _) rfl ?_
        exact leaf_q (sub_out 33 _ rfl (by kernel_rfl) ⟨(congrArg Value.bool (by rw [decide_eq_true b] <;> rfl)), trivial⟩)
       ·refine qa 3 ((90, .int .i64 _) :: (89, .slice _ _ _) :: (88, .bool false) :: _) rfl <| q_ 91 (fun _ c1 => oI 4 rfl rfl ((a.old c1).addr (a7 (by rw [decide_eq_false b] <;> rfl)).1 (a7 (by rw [decide_eq_false b] <;> rfl)).2) e.2.2 (a7 (by rw [decide_eq_false b] <;> rfl))) <| q_ 92 (fun _ _ => op_field0 rfl (by kernel_rfl)) <| q_ 93 (fun _ c1 => oL (v := .int .i64 ((ix p2 t).Container)) ((a.old c1).cell0 (a7 (by rw [decide_eq_false b] <;> rfl)).1 (a7 (by rw [decide_eq_false b] <;> rfl)).2 rfl)) <| qa 1 ((94, .int .i64 _) :: _) rfl <| qd 95 (fun _ _ => op_geq rfl rfl) (fun y => ?_) (fun y => ?_)
        ·refine qa 19 ((114, .bool true) :: (113, undef) :: (112, undef) :: (111, undef) :: (110, undef) :: (109, undef) :: (108, undef) :: (107, undef) :: (106, undef) :: (105, .bool true) :: (104, .bool true) :: (103, undef) :: (102, undef) :: (101, undef) :: (100, undef) :: (99, undef) :: (98, undef) :: (97, .bool true) :: (96, .bool true) :: _) rfl ?_
         exact leaf_q (sub_out 33 _ rfl (by kernel_rfl) ⟨(congrArg Value.bool (by rw [decide_eq_false b, decide_eq_true y] <;> rfl)), trivial⟩)
        ·refine qa 4 ((99, .int .i64 _) :: (98, .slice _ _ _) :: (97, .bool false) :: (96, .bool false) :: _) rfl <| q_ 100 (fun _ c1 => oI 4 rfl rfl ((a.old c1).addr (a8 (by rw [decide_eq_false b, decide_eq_false y] <;> rfl)).1 (a8 (by rw [decide_eq_false b, decide_eq_false y] <;> rfl)).2) e.2.2 (a8 (by rw [decide_eq_false b, decide_eq_false y] <;> rfl))) <| q_ 101 (fun _ _ => op_field (m := 1) rfl (by kernel_rfl)) <| q_ 102 (fun _ c1 => oL (v := .int .i64 ((ix p2 t).Household)) ((a.old c1).cell (j := 1) (a8 (by rw [decide_eq_false b, decide_eq_false y] <;> rfl)).1 (a8 (by rw [decide_eq_false b, decide_eq_false y] <;> rfl)).2 rfl)) <| qd 103 (fun _ _ => op_lss rfl rfl) (fun O => ?_) (fun O => ?_)
         ·refine qa 11 ((114, .bool true) :: (113, undef) :: (112, undef) :: (111, undef) :: (110, undef) :: (109, undef) :: (108, undef) :: (107, undef) :: (106, undef) :: (105, .bool true) :: (104, .bool true) :: _) rfl ?_
          exact leaf_q (sub_out 33 _ rfl (by kernel_rfl) ⟨(congrArg Value.bool (by rw [decide_eq_false b, decide_eq_false y, decide_eq_true O] <;> rfl)), trivial⟩)
         ·refine qa 4 ((107, .int .i64 _) :: (106, .slice _ _ _) :: (105, .bool false) :: (104, .bool false) :: _) rfl <| q_ 108 (fun _ c1 => oI 4 rfl rfl ((a.old c1).addr (a9 (by rw [decide_eq_false b, decide_eq_false y, decide_eq_false O] <;> rfl)).1 (a9 (by rw [decide_eq_false b, decide_eq_false y, decide_eq_false O] <;> rfl)).2) e.2.2 (a9 (by rw [decide_eq_false b, decide_eq_false y, decide_eq_false O] <;> rfl))) <| q_ 109 (fun _ _ => op_field (m := 1) rfl (by kernel_rfl)) <| q_ 110 (fun _ c1 => oL (v := .int .i64 ((ix p2 t).Household)) ((a.old c1).cell (j := 1) (a9 (by rw [decide_eq_false b, decide_eq_false y, decide_eq_false O] <;> rfl)).1 (a9 (by rw [decide_eq_false b, decide_eq_false y, decide_eq_false O] <;> rfl)).2 rfl)) <| qa 1 ((111, .slice _ _ _) :: _) rfl <| q_ 112 (fun _ _ => op_lenN rfl (by kernel_rfl) C.2.2) <| qa 2 ((114, .bool _) :: (113, .bool _) :: _) rfl ?_
          exact leaf_q (sub_out 33 _ rfl (by kernel_rfl) ⟨(congrArg Value.bool (by rw [decide_eq_false b, decide_eq_false y, decide_eq_false O] <;> rfl)), trivial⟩)
      refine xm_next <| cm_condB (by kernel_rfl) rfl (fun bg => ?_) (fun bg => ?_)
      ·refine sr <| la 1 ((6, .int .i64 _) :: _) rfl <| nn <| cm_ret <| xm_thenR <| xm_inR <| xm_thenR <| xm_lret <| xm_inR <| xm_lret ?_
       exact xm_retT rfl (by kernel_rfl) (show _ = Value.int .i64 _ from rfl) fun w1 c1 => ⟨(), rfl, hsub [] (by kernel_rfl) rfl w1 c1⟩
      ·refine sk <| sr <| la 2 ((116, .int .i64 _) :: (115, .slice _ _ _) :: _) rfl <| lm_ck (fun aa => ?_)
       refine v_ 117 (fun _ c1 => oI 4 rfl rfl ((a.old c1).addr aa.1 aa.2) e.2.2 aa) <| v_ 118 (fun _ _ => op_field (m := 2) rfl (by kernel_rfl)) <| v_ 119 (fun _ c1 => oR [.int .i64 ((ix p2 t).When.From), .int .i64 ((ix p2 t).When.To)] ((a.old c1).part (o := 2) aa.1 aa.2 rfl)) <| lm_call 120 (V := (fun (r : Bool) (_u : Unit) => .bool r)) (HR := (fun (_r : Bool) (_u : Unit) => [])) (by kernel_rfl) (fun w1 => op_call (by kernel_rfl)) (fun r1 hr1 w1 c1 => m_recyclingref14_Window_ok N w1 ((ix p2 t).When)  r1 hr1) ?_
       intro bz c0
       refine la 1 ((121, .bool _) :: _) rfl <| nn <| cm_condB (by kernel_rfl) rfl (fun bh => ?_) (fun bh => ?_)
       ·refine sr <| la 1 ((6, .int .i64 _) :: _) rfl <| nn <| cm_ret <| xm_inR <| xm_thenR <| xm_lret <| xm_inR <| xm_lret ?_
        exact xm_retT rfl (by kernel_rfl) (show _ = Value.int .i64 _ from rfl) fun w1 c1 => ⟨(), rfl, hsub [] (by kernel_rfl) rfl w1 c1⟩
       ·refine cm_skip <| xm_inN <| xm_next <| cm_region <| la 1 ((80, .int .i64 _) :: _) rfl <| lm_ck (fun bi => ?_)
        refine v_ 81 (fun _ _ => op_add rfl rfl bi) <| la 1 ((10, .int .i64 _) :: _) rfl <| lm_nil ?_
        exact xm_lnext () sq (sh [])
     ·refine cm_exit <| xm_thenE <| xm_lexit <| xm_here ?_
      exact xm_lnext () sq (sh [])
    intro ay az
    refine cm_join (σ := Unit) (ξ := Unit) (fun ag ah => []) (fun ag ah => []) ?_ ?_
    ·refine sr <| la 1 ((11, .int .i64 _) :: _) rfl <| nn <| cm_block <| cm_loop (σ := Int) (ξ := Unit) (fun f ai => [(2, .slice i l q), (11, .int .i64 f)]) (fun f ai => []) () ?_ ?_ ?_
     ·exact sq
     ·exact sh []
     intro f ai
     refine cm_seq <| sr <| la 2 ((123, .slice _ _ _) :: (122, .int .i64 _) :: _) rfl <| v_ 124 (fun _ _ => op_lenN rfl (by kernel_rfl) e.2.2) <| la 1 ((125, .bool _) :: _) rfl <| nn <| cm_cond (by kernel_rfl) rfl (fun b1 => ?_) (fun b1 => ?_)
     ·refine sk <| cm_join (σ := Unit) (ξ := Unit) (fun aj ak => [(2, .slice i l q), (11, .int .i64 f)]) (fun aj ak => []) ?_ ?_
      ·refine cm_block <| sr <| la 1 ((12, .int .i64 _) :: _) rfl <| nn <| cm_block <| cm_loop (σ := Int) (ξ := Unit) (fun B al => [(2, .slice i l q), (11, .int .i64 f), (12, .int .i64 B)]) (fun B al => []) () ?_ ?_ ?_
       ·exact sq
       ·exact sh []
       intro B al
       refine cm_seq <| sr <| la 3 ((130, .bool _) :: (129, .int .i64 _) :: (128, .int .i64 _) :: _) rfl <| nn <| cm_cond (by kernel_rfl) rfl (fun b2 => ?_) (fun b2 => ?_)
       ·refine sk <| cm_seq <| cm_block <| cm_seq <| cm_ck (fun Q => ?_)
        refine cm_ck (fun U => ?_)
        refine cm_bind fun a2 am => cm_held (ξ := Unit) (fun an => [(2, .slice i l q), (11, .int .i64 f), (12, .int .i64 B), (14, .bool a2.2)]) (fun an => []) [] 17 (by kernel_rfl) (by rfl) (hsub [] (by kernel_rfl) (by rfl)) ?_ ?_
        ·intro bn g
         refine wh_take 0 134 rfl (by kernel_rfl) (by kernel_rfl) (fun w2 c2 => (op_move (v := .slice _ _ _) rfl)) (hsub [] (by kernel_rfl) rfl _ g) <| wh_take 1 135 rfl (by kernel_rfl) (by kernel_rfl) (fun w2 c2 => (op_move (v := .int .i64 _) rfl)) (hsub [] (by kernel_rfl) rfl _ g) <| wh_take 2 136 rfl (by kernel_rfl) (by kernel_rfl) (fun w2 c2 => (op_indexA 4 rfl rfl (by kernel_rfl) ((a.old c2).addr Q.1 Q.2) e.2.2 Q.1 Q.2)) (hsub [] (by kernel_rfl) rfl _ g) <| wh_take 3 137 rfl (by kernel_rfl) (by kernel_rfl) (fun w2 c2 => (op_field (m := 2) rfl (by kernel_rfl))) (hsub [] (by kernel_rfl) rfl _ g) <| wh_take 4 138 rfl (by kernel_rfl) (by kernel_rfl) (fun w2 c2 => (op_loadR [.int .i64 ((ix p2 f).When.From), .int .i64 ((ix p2 f).When.To)] rfl (by kernel_rfl) ((a.old c2).part (o := 2) Q.1 Q.2 rfl))) (hsub [] (by kernel_rfl) rfl _ g) <| wh_take 5 139 rfl (by kernel_rfl) (by kernel_rfl) (fun w2 c2 => (op_move (v := .slice _ _ _) rfl)) (hsub [] (by kernel_rfl) rfl _ g) <| wh_take 6 140 rfl (by kernel_rfl) (by kernel_rfl) (fun w2 c2 => (op_move (v := .int .i64 _) rfl)) (hsub [] (by kernel_rfl) rfl _ g) <| wh_take 7 141 rfl (by kernel_rfl) (by kernel_rfl) (fun w2 c2 => (op_indexA 4 rfl rfl (by kernel_rfl) ((a.old c2).addr U.1 U.2) e.2.2 U.1 U.2)) (hsub [] (by kernel_rfl) rfl _ g) <| wh_take 8 142 rfl (by kernel_rfl) (by kernel_rfl) (fun w2 c2 => (op_field (m := 2) rfl (by kernel_rfl))) (hsub [] (by kernel_rfl) rfl _ g) <| wh_take 9 143 rfl (by kernel_rfl) (by kernel_rfl) (fun w2 c2 => (op_loadR [.int .i64 ((ix p2 B).When.From), .int .i64 ((ix p2 B).When.To)] rfl (by kernel_rfl) ((a.old c2).part (o := 2) U.1 U.2 rfl))) (hsub [] (by kernel_rfl) rfl _ g) <| wh_ready [10, 14] (by kernel_rfl) rfl ⟨?_, ?_, trivial⟩
         ·refine ws_call 144 rfl (by kernel_rfl) (op_call (by kernel_rfl)) (m_recyclingref14_common_ok N _ ((ix p2 f).When) ((ix p2 B).When)  a2 am) ?_
          rintro x bo ⟨bp, rfl, L⟩
          replace L := g.call L
          refine ⟨_, rfl, (hsub [] (by kernel_rfl) rfl _ L), ?_⟩
          refine wh_take 11 133 rfl (by kernel_rfl) (by kernel_rfl) (fun w2 c2 => (op_move (v := .tuple _) rfl)) (hsub [] (by kernel_rfl) rfl _ L) <| wh_take 12 145 rfl (by kernel_rfl) (by kernel_rfl) (fun w2 c2 => (op_extract (v := .agg _) rfl rfl)) (hsub [] (by kernel_rfl) rfl _ L) <| wh_take 13 146 rfl (by kernel_rfl) (by kernel_rfl) (fun w2 c2 => (op_extract (v := .bool _) rfl rfl)) (hsub [] (by kernel_rfl) rfl _ L) <| wh_ready [14] (by kernel_rfl) rfl ⟨?_, trivial⟩
          refine ws_alloc 13 [.int .i64 0, .int .i64 0] (v := .agg #[.int .i64 0, .int .i64 0]) rfl (by kernel_rfl) (by kernel_rfl) rfl L ?_
          intro bq br ao
          refine ⟨(hsub [] (by kernel_rfl) rfl _ ao), ?_⟩
          refine wh_ready [15] (by kernel_rfl) rfl ⟨?_, trivial⟩
          refine ws_storeA 0 [.int .i64 _, .int .i64 _] [_, _] rfl (by kernel_rfl) rfl rfl (by kernel_rfl) rfl rfl (by kernel_rfl) rfl (H' := [blkE _ _ [_, _]]) rfl ao ?_
          intro bs ab
          refine ⟨(hsub [] (by kernel_rfl) rfl _ ab), ?_⟩
          refine wh_take 16 14 rfl (by kernel_rfl) (by kernel_rfl) (fun w2 c2 => (op_assign (v := .bool _) rfl)) (hsub [] (by kernel_rfl) rfl _ ab) ?_
          exact wh_done () (by kernel_rfl) sq (hsub [] (by kernel_rfl) rfl _ ab)
         ·refine ws_alloc 13 [.int .i64 0, .int .i64 0] (v := .agg #[.int .i64 0, .int .i64 0]) rfl (by kernel_rfl) (by kernel_rfl) rfl g ?_
          intro bt bu ap
          refine ⟨(hsub [] (by kernel_rfl) rfl _ ap), ?_⟩
          refine wh_ready [10] (by kernel_rfl) rfl ⟨?_, trivial⟩
          refine ws_call 144 rfl (by kernel_rfl) (op_call (by kernel_rfl)) (m_recyclingref14_common_ok N _ ((ix p2 f).When) ((ix p2 B).When)  a2 am) ?_
          rintro x bv ⟨bw, rfl, M⟩
          replace M := ap.call M
          refine ⟨_, rfl, (hsub [] (by kernel_rfl) rfl _ M), ?_⟩
          refine wh_take 11 133 rfl (by kernel_rfl) (by kernel_rfl) (fun w2 c2 => (op_move (v := .tuple _) rfl)) (hsub [] (by kernel_rfl) rfl _ M) <| wh_take 12 145 rfl (by kernel_rfl) (by kernel_rfl) (fun w2 c2 => (op_extract (v := .agg _) rfl rfl)) (hsub [] (by kernel_rfl) rfl _ M) <| wh_take 13 146 rfl (by kernel_rfl) (by kernel_rfl) (fun w2 c2 => (op_extract (v := .bool _) rfl rfl)) (hsub [] (by kernel_rfl) rfl _ M) <| wh_ready [15] (by kernel_rfl) rfl ⟨?_, trivial⟩
          refine ws_storeA 0 [.int .i64 _, .int .i64 _] [_, _] rfl (by kernel_rfl) rfl rfl (by kernel_rfl) rfl rfl (by kernel_rfl) rfl (H' := [blkE _ _ [_, _]]) rfl M ?_
          intro bx ac
          refine ⟨(hsub [] (by kernel_rfl) rfl _ ac), ?_⟩
          refine wh_take 16 14 rfl (by kernel_rfl) (by kernel_rfl) (fun w2 c2 => (op_assign (v := .bool _) rfl)) (hsub [] (by kernel_rfl) rfl _ ac) ?_
          exact wh_done () (by kernel_rfl) sq (hsub [] (by kernel_rfl) rfl _ ac)
        intro an
        refine xm_next <| cm_seq <| cm_ck (fun Z => ?_)
        refine cm_ck (fun a0 => ?_)
        refine cm_drawn [(160, .bool (a2.2 && (decide ((ix p2 f).Container = (ix p2 B).Container))))] (by kernel_rfl) (by kernel_rfl) ?_ ?_
        ·refine wq_bool 147 (by kernel_rfl) (fun w1 c1 => (op_move (v := .bool _) rfl)) (fun d => ?_) (fun d => ?_)
         ·refine qa 3 ((150, .int .i64 _) :: (149, .slice _ _ _) :: (148, .bool true) :: _) rfl <| q_ 151 (fun _ c1 => oI 4 rfl rfl ((a.old c1).addr (Z (by rw [d] <;> rfl)).1 (Z (by rw [d] <;> rfl)).2) e.2.2 (Z (by rw [d] <;> rfl))) <| q_ 152 (fun _ _ => op_field0 rfl (by kernel_rfl)) <| q_ 153 (fun _ c1 => oL (v := .int .i64 ((ix p2 f).Container)) ((a.old c1).cell0 (Z (by rw [d] <;> rfl)).1 (Z (by rw [d] <;> rfl)).2 rfl)) <| qa 2 ((155, .int .i64 _) :: (154, .slice _ _ _) :: _) rfl <| q_ 156 (fun _ c1 => oI 4 rfl rfl ((a.old c1).addr (a0 (by rw [d] <;> rfl)).1 (a0 (by rw [d] <;> rfl)).2) e.2.2 (a0 (by rw [d] <;> rfl))) <| q_ 157 (fun _ _ => op_field0 rfl (by kernel_rfl)) <| q_ 158 (fun _ c1 => oL (v := .int .i64 ((ix p2 B).Container)) ((a.old c1).cell0 (a0 (by rw [d] <;> rfl)).1 (a0 (by rw [d] <;> rfl)).2 rfl)) <| qa 2 ((160, .bool _) :: (159, .bool _) :: _) rfl ?_
          exact leaf_q (sub_out 14 _ rfl (by kernel_rfl) ⟨(congrArg Value.bool (by rw [d] <;> rfl)), trivial⟩)
         ·refine qa 13 ((160, .bool false) :: (159, undef) :: (158, undef) :: (157, undef) :: (156, undef) :: (155, undef) :: (154, undef) :: (153, undef) :: (152, undef) :: (151, undef) :: (150, undef) :: (149, undef) :: (148, .bool false) :: _) rfl ?_
          exact leaf_q (sub_out 14 _ rfl (by kernel_rfl) ⟨(congrArg Value.bool (by rw [d] <;> rfl)), trivial⟩)
        refine xm_next <| cm_condB (by kernel_rfl) rfl (fun b3 => ?_) (fun b3 => ?_)
        ·refine sr <| la 1 ((6, .int .i64 _) :: _) rfl <| nn <| cm_ret <| xm_inR <| xm_thenR <| xm_lret <| xm_inR <| xm_inR <| xm_lret <| xm_lret <| xm_inR ?_
         refine xm_lret ?_
         exact xm_retT rfl (by kernel_rfl) (show _ = Value.int .i64 _ from rfl) fun w1 c1 => ⟨(), rfl, hsub [] (by kernel_rfl) rfl w1 c1⟩
        ·refine cm_skip <| xm_inN <| xm_next <| cm_region <| la 1 ((131, .int .i64 _) :: _) rfl <| lm_ck (fun b4 => ?_)
         refine v_ 132 (fun _ _ => op_add rfl rfl b4) <| la 1 ((12, .int .i64 _) :: _) rfl <| lm_nil ?_
         exact xm_lnext () sq (sh [])
       ·refine cm_exit <| xm_thenE <| xm_lexit <| xm_here <| xm_inN ?_
        exact xm_lnext () sq (sh [])
      intro aj ak
      refine cm_region <| la 1 ((126, .int .i64 _) :: _) rfl <| lm_ck (fun b5 => ?_)
      refine v_ 127 (fun _ _ => op_add rfl rfl b5) <| la 1 ((11, .int .i64 _) :: _) rfl <| lm_nil ?_
      exact xm_lnext () sq (sh [])
     ·refine cm_exit <| xm_thenE <| xm_lexit <| xm_here ?_
      exact xm_lnext () sub_nil (sh [])
    intro ag ah
    refine sr <| la 1 ((6, .int .i64 _) :: _) rfl <| nn <| cm_ret ?_
    exact xm_retT rfl (by kernel_rfl) (show _ = Value.int .i64 _ from rfl) fun w1 c1 => ⟨(), rfl, hsub [] (by kernel_rfl) rfl w1 c1⟩
/-- recyclingref53.Usable -/
def m_recyclingref53_Usable (_N : Nat) (p0 : ApiTariff) : Option (Bool) :=
 some (((((((((decide (0 ≤ p0.Base)) && (decide (p0.Base ≤ 100000))) && (decide (0 ≤ p0.Empty))) && (decide (p0.Empty ≤ 100000))) && (decide (0 ≤ p0.Kilo))) && (decide (p0.Kilo ≤ 100000))) && (decide (0 ≤ p0.Free))) && (decide (p0.Free ≤ 1000))))
set_option maxHeartbeats 2000000 in
set_option maxRecDepth 20000 in
theorem m_recyclingref53_Usable_ok (N : Nat) (w0 : World) (p0 : ApiTariff)   (r : Bool) (hr : m_recyclingref53_Usable N p0 = some r) :
  Ret Tryz.prog 81 [.agg #[.int .i64 p0.From, .int .i64 p0.Base, .int .i64 p0.Empty, .int .i64 p0.Kilo, .int .i64 p0.Free]] w0 (fun (r : Bool) (_u : Unit) => .bool r) (fun (_r : Bool) (_u : Unit) => []) r := by
 refine calls_v (n := 41) r hr Tryz.func81 ?_
 unfold m_recyclingref53_Usable
 refine sr <| lm_box 1 [.int .i64 _, .int .i64 _, .int .i64 _, .int .i64 _, .int .i64 _] (by kernel_rfl) rfl ?_
 intro b5
 refine la 1 ((2, .bool false) :: _) rfl <| nn <| cm_seq <| cm_cutE [(2, .bool ((((((((decide (0 ≤ p0.Base)) && (decide (p0.Base ≤ 100000))) && (decide (0 ≤ p0.Empty))) && (decide (p0.Empty ≤ 100000))) && (decide (0 ≤ p0.Kilo))) && (decide (p0.Kilo ≤ 100000))) && (decide (0 ≤ p0.Free))) && (decide (p0.Free ≤ 1000))))] ?_ ?_
 ·refine q_ 3 (fun _ _ => oF 1 1 rfl) <| q_ 4 (fun _ c1 => oL (c1.cell 0 (u := .int .i64 _) rfl rfl)) <| qd 5 (fun _ _ => op_geq rfl rfl) (fun h6 => ?_) (fun h6 => ?_)
  ·refine qa 1 ((6, .bool true) :: _) rfl <| q_ 7 (fun _ _ => oF 1 1 rfl) <| q_ 8 (fun _ c1 => oL (c1.cell 0 (u := .int .i64 _) rfl rfl)) <| qd 9 (fun _ _ => op_leq rfl rfl) (fun h7 => ?_) (fun h7 => ?_)
   ·refine qa 2 ((11, .bool true) :: (10, .bool true) :: _) rfl <| q_ 12 (fun _ _ => oF 2 2 rfl) <| q_ 13 (fun _ c1 => oL (c1.cell 0 (u := .int .i64 _) rfl rfl)) <| qd 14 (fun _ _ => op_geq rfl rfl) (fun h8 => ?_) (fun h8 => ?_)
    ·refine qa 2 ((16, .bool true) :: (15, .bool true) :: _) rfl <| q_ 17 (fun _ _ => oF 2 2 rfl) <| q_ 18 (fun _ c1 => oL (c1.cell 0 (u := .int .i64 _) rfl rfl)) <| qd 19 (fun _ _ => op_leq rfl rfl) (fun h9 => ?_) (fun h9 => ?_)
     ·refine qa 2 ((21, .bool true) :: (20, .bool true) :: _) rfl <| q_ 22 (fun _ _ => oF 3 3 rfl) <| q_ 23 (fun _ c1 => oL (c1.cell 0 (u := .int .i64 _) rfl rfl)) <| qd 24 (fun _ _ => op_geq rfl rfl) (fun a => ?_) (fun a => ?_)
      ·refine qa 2 ((26, .bool true) :: (25, .bool true) :: _) rfl <| q_ 27 (fun _ _ => oF 3 3 rfl) <| q_ 28 (fun _ c1 => oL (c1.cell 0 (u := .int .i64 _) rfl rfl)) <| qd 29 (fun _ _ => op_leq rfl rfl) (fun b => ?_) (fun b => ?_)
       ·refine qa 2 ((31, .bool true) :: (30, .bool true) :: _) rfl <| q_ 32 (fun _ _ => oF 4 4 rfl) <| q_ 33 (fun _ c1 => oL (c1.cell 0 (u := .int .i64 _) rfl rfl)) <| qd 34 (fun _ _ => op_geq rfl rfl) (fun d => ?_) (fun d => ?_)
        ·refine qa 2 ((36, .bool true) :: (35, .bool true) :: _) rfl <| q_ 37 (fun _ _ => oF 4 4 rfl) <| q_ 38 (fun _ c1 => oL (c1.cell 0 (u := .int .i64 _) rfl rfl)) <| qa 3 ((2, .bool _) :: (40, .bool _) :: (39, .bool _) :: _) rfl ?_
         exact leaf_q (sub_out 39 _ rfl (by kernel_rfl) ⟨(congrArg Value.bool (by rw [decide_eq_true h6, decide_eq_true h7, decide_eq_true h8, decide_eq_true h9, decide_eq_true a, decide_eq_true b, decide_eq_true d] <;> rfl)), trivial⟩)
        ·refine qa 7 ((2, .bool false) :: (40, .bool false) :: (39, undef) :: (38, undef) :: (37, undef) :: (36, .bool false) :: (35, .bool false) :: _) rfl ?_
         exact leaf_q (sub_out 39 _ rfl (by kernel_rfl) ⟨(congrArg Value.bool (by rw [decide_eq_true h6, decide_eq_true h7, decide_eq_true h8, decide_eq_true h9, decide_eq_true a, decide_eq_true b, decide_eq_false d] <;> rfl)), trivial⟩)
       ·refine qa 12 ((2, .bool false) :: (40, .bool false) :: (39, undef) :: (38, undef) :: (37, undef) :: (36, .bool false) :: (35, .bool false) :: (34, undef) :: (33, undef) :: (32, undef) :: (31, .bool false) :: (30, .bool false) :: _) rfl ?_
        exact leaf_q (sub_out 39 _ rfl (by kernel_rfl) ⟨(congrArg Value.bool (by rw [decide_eq_true h6, decide_eq_true h7, decide_eq_true h8, decide_eq_true h9, decide_eq_true a, decide_eq_false b] <;> rfl)), trivial⟩)
      ·refine qa 17 ((2, .bool false) :: (40, .bool false) :: (39, undef) :: (38, undef) :: (37, undef) :: (36, .bool false) :: (35, .bool false) :: (34, undef) :: (33, undef) :: (32, undef) :: (31, .bool false) :: (30, .bool false) :: (29, undef) :: (28, undef) :: (27, undef) :: (26, .bool false) :: (25, .bool false) :: _) rfl ?_
       exact leaf_q (sub_out 39 _ rfl (by kernel_rfl) ⟨(congrArg Value.bool (by rw [decide_eq_true h6, decide_eq_true h7, decide_eq_true h8, decide_eq_true h9, decide_eq_false a] <;> rfl)), trivial⟩)
     ·refine qa 22 ((2, .bool false) :: (40, .bool false) :: (39, undef) :: (38, undef) :: (37, undef) :: (36, .bool false) :: (35, .bool false) :: (34, undef) :: (33, undef) :: (32, undef) :: (31, .bool false) :: (30, .bool false) :: (29, undef) :: (28, undef) :: (27, undef) :: (26, .bool false) :: (25, .bool false) :: (24, undef) :: (23, undef) :: (22, undef) :: (21, .bool false) :: (20, .bool false) :: _) rfl ?_
      exact leaf_q (sub_out 39 _ rfl (by kernel_rfl) ⟨(congrArg Value.bool (by rw [decide_eq_true h6, decide_eq_true h7, decide_eq_true h8, decide_eq_false h9] <;> rfl)), trivial⟩)
    ·refine qa 27 ((2, .bool false) :: (40, .bool false) :: (39, undef) :: (38, undef) :: (37, undef) :: (36, .bool false) :: (35, .bool false) :: (34, undef) :: (33, undef) :: (32, undef) :: (31, .bool false) :: (30, .bool false) :: (29, undef) :: (28, undef) :: (27, undef) :: (26, .bool false) :: (25, .bool false) :: (24, undef) :: (23, undef) :: (22, undef) :: (21, .bool false) :: (20, .bool false) :: (19, undef) :: (18, undef) :: (17, undef) :: (16, .bool false) :: (15, .bool false) :: _) rfl ?_
     exact leaf_q (sub_out 39 _ rfl (by kernel_rfl) ⟨(congrArg Value.bool (by rw [decide_eq_true h6, decide_eq_true h7, decide_eq_false h8] <;> rfl)), trivial⟩)
   ·refine qa 32 ((2, .bool false) :: (40, .bool false) :: (39, undef) :: (38, undef) :: (37, undef) :: (36, .bool false) :: (35, .bool false) :: (34, undef) :: (33, undef) :: (32, undef) :: (31, .bool false) :: (30, .bool false) :: (29, undef) :: (28, undef) :: (27, undef) :: (26, .bool false) :: (25, .bool false) :: (24, undef) :: (23, undef) :: (22, undef) :: (21, .bool false) :: (20, .bool false) :: (19, undef) :: (18, undef) :: (17, undef) :: (16, .bool false) :: (15, .bool false) :: (14, undef) :: (13, undef) :: (12, undef) :: (11, .bool false) :: (10, .bool false) :: _) rfl ?_
    exact leaf_q (sub_out 39 _ rfl (by kernel_rfl) ⟨(congrArg Value.bool (by rw [decide_eq_true h6, decide_eq_false h7] <;> rfl)), trivial⟩)
  ·refine qa 36 ((2, .bool false) :: (40, .bool false) :: (39, undef) :: (38, undef) :: (37, undef) :: (36, .bool false) :: (35, .bool false) :: (34, undef) :: (33, undef) :: (32, undef) :: (31, .bool false) :: (30, .bool false) :: (29, undef) :: (28, undef) :: (27, undef) :: (26, .bool false) :: (25, .bool false) :: (24, undef) :: (23, undef) :: (22, undef) :: (21, .bool false) :: (20, .bool false) :: (19, undef) :: (18, undef) :: (17, undef) :: (16, .bool false) :: (15, .bool false) :: (14, undef) :: (13, undef) :: (12, undef) :: (11, .bool false) :: (10, .bool false) :: (9, undef) :: (8, undef) :: (7, undef) :: (6, .bool false) :: _) rfl ?_
   exact leaf_q (sub_out 39 _ rfl (by kernel_rfl) ⟨(congrArg Value.bool (by rw [decide_eq_false h6] <;> rfl)), trivial⟩)
 refine xm_next <| cm_ret ?_
 exact xm_retT rfl (by kernel_rfl) (show _ = Value.bool _ from rfl) fun w1 c1 => ⟨(), rfl, hsub [] (by kernel_rfl) rfl w1 c1⟩
/-- recyclingref53.Check -/
def m_recyclingref53_Check (N : Nat) (p0 : (List ApiTariff)) : Option (Int) :=
 (if (List.length p0 : Int) = 0 then
  some ((10 : Int))
 else
  (if 8 < (List.length p0 : Int) then
   some ((8 : Int))
  else
   (andThen
    (loopM (fun (a : Int) =>
     (if a < (List.length p0 : Int) then
      ck ((0 : Int) ≤ a ∧ a < (List.length p0 : Int)) (
       ck ((!(decide ((ix p0 a).From < 0))) = true → (0 : Int) ≤ a ∧ a < (List.length p0 : Int)) (
        ck ((!((decide ((ix p0 a).From < 0)) || (decide (36524 < (ix p0 a).From)))) = true → (0 : Int) ≤ a ∧ a < (List.length p0 : Int)) (
         callIf ((!((decide ((ix p0 a).From < 0)) || (decide (36524 < (ix p0 a).From)))) = true) (m_recyclingref53_Usable N (ix p0 a)) fun d => (if (((decide ((ix p0 a).From < 0)) || (decide (36524 < (ix p0 a).From))) || (!d)) = true then
          some (.done (.done ((1 : Int))))
         else
          ck (I64 (a + (1 : Int))) (
           some (.next (a + (1 : Int))))))))
     else
      some (.done (.next ())))) N (0 : Int))
   fun (_s43 : Unit) =>
    (andThen
     (loopM (fun (b : Int) =>
      (if b < (List.length p0 : Int) then
       ck ((0 : Int) ≤ b ∧ b < (List.length p0 : Int)) (
        ck (I64 (b - (1 : Int))) (
         ck ((0 : Int) ≤ (b - (1 : Int)) ∧ (b - (1 : Int)) < (List.length p0 : Int)) (
          (if (ix p0 b).From ≤ (ix p0 (b - (1 : Int))).From then
           some (.done (.done ((9 : Int))))
          else
           ck (I64 (b + (1 : Int))) (
            some (.next (b + (1 : Int))))))))
      else
       some (.done (.next ())))) N (1 : Int))
    fun (_s105 : Unit) =>
     some ((0 : Int))))))
set_option maxHeartbeats 2000000 in
set_option maxRecDepth 20000 in
theorem m_recyclingref53_Check_ok (N : Nat) (w0 : World) (p0 : (List ApiTariff)) (i : Option Addr) (j : Nat) (l : Nat) (a : RdE w0 5 encApiTariff i p0) (b : SW i j l (List.length p0)) (r : Int) (hr : m_recyclingref53_Check N p0 = some r) :
  Ret Tryz.prog 32 [.slice i j l] w0 (fun (r : Int) (_u : Unit) => .int .i64 r) (fun (_r : Int) (_u : Unit) => []) r := by
 refine calls_v (n := 57) r hr Tryz.func32 ?_
 unfold m_recyclingref53_Check
 refine sr <| la 1 ((2, .int .i64 _) :: _) rfl <| nn <| cm_seq <| sr <| la 1 ((5, .slice _ _ _) :: _) rfl <| v_ 6 (fun _ _ => op_lenN rfl (by kernel_rfl) b.2.2) <| la 1 ((7, .bool _) :: _) rfl <| nn <| cm_cond (by kernel_rfl) rfl (fun h5 => ?_) (fun h5 => ?_)
 ·refine sr <| la 1 ((2, .int .i64 _) :: _) rfl <| nn <| cm_ret <| xm_thenR ?_
  exact xm_retT rfl (by kernel_rfl) (show _ = Value.int .i64 _ from rfl) fun w1 c1 => ⟨(), rfl, hsub [] (by kernel_rfl) rfl w1 c1⟩
 ·refine sk <| cm_seq <| sr <| la 1 ((8, .slice _ _ _) :: _) rfl <| v_ 9 (fun _ _ => op_lenN rfl (by kernel_rfl) b.2.2) <| la 1 ((10, .bool _) :: _) rfl <| nn <| cm_cond (by kernel_rfl) rfl (fun h6 => ?_) (fun h6 => ?_)
  ·refine sr <| la 1 ((2, .int .i64 _) :: _) rfl <| nn <| cm_ret <| xm_thenR ?_
   exact xm_retT rfl (by kernel_rfl) (show _ = Value.int .i64 _ from rfl) fun w1 c1 => ⟨(), rfl, hsub [] (by kernel_rfl) rfl w1 c1⟩
  ·refine sk <| cm_join (σ := Unit) (ξ := Unit) (fun C G => [(0, .slice i j l)]) (fun C G => []) ?_ ?_
   ·refine sr <| la 1 ((3, .int .i64 _) :: _) rfl <| nn <| cm_block <| cm_loop (σ := Int) (ξ := Unit) (fun e J => [(0, .slice i j l), (3, .int .i64 e)]) (fun e J => []) () ?_ ?_ ?_
    ·exact sq
    ·exact sh []
    intro e J
    refine cm_seq <| sr <| la 2 ((12, .slice _ _ _) :: (11, .int .i64 _) :: _) rfl <| v_ 13 (fun _ _ => op_lenN rfl (by kernel_rfl) b.2.2) <| la 1 ((14, .bool _) :: _) rfl <| nn <| cm_cond (by kernel_rfl) rfl (fun U => ?_) (fun U => ?_)
    ·refine sk <| cm_seq <| cm_block <| cm_seq <| cm_ck (fun q => ?_)
     refine cm_ck (fun t => ?_)
     refine cm_ck (fun x => ?_)
     refine cm_callIf fun K V => cm_cutE [(38, .bool (((decide ((ix p0 e).From < 0)) || (decide (36524 < (ix p0 e).From))) || (!K)))] ?_ ?_
     ·refine qa 2 ((18, .int .i64 _) :: (17, .slice _ _ _) :: _) rfl <| q_ 19 (fun _ c1 => oI 5 rfl rfl ((a.old c1).addr q.1 q.2) b.2.2 q) <| q_ 20 (fun _ _ => op_field0 rfl (by kernel_rfl)) <| q_ 21 (fun _ c1 => oL (v := .int .i64 ((ix p0 e).From)) ((a.old c1).cell0 q.1 q.2 rfl)) <| qd 22 (fun _ _ => op_lss rfl rfl) (fun d => ?_) (fun d => ?_)
      ·refine qa 16 ((38, .bool true) :: (37, undef) :: (36, undef) :: (35, undef) :: (34, undef) :: (33, undef) :: (32, undef) :: (31, .bool true) :: (30, .bool true) :: (29, undef) :: (28, undef) :: (27, undef) :: (26, undef) :: (25, undef) :: (24, undef) :: (23, .bool true) :: _) rfl ?_
       exact leaf_q (sub_out 22 _ rfl (by kernel_rfl) ⟨(congrArg Value.bool (by rw [decide_eq_true d] <;> rfl)), trivial⟩)
      ·refine qa 3 ((25, .int .i64 _) :: (24, .slice _ _ _) :: (23, .bool false) :: _) rfl <| q_ 26 (fun _ c1 => oI 5 rfl rfl ((a.old c1).addr (t (by rw [decide_eq_false d] <;> rfl)).1 (t (by rw [decide_eq_false d] <;> rfl)).2) b.2.2 (t (by rw [decide_eq_false d] <;> rfl))) <| q_ 27 (fun _ _ => op_field0 rfl (by kernel_rfl)) <| q_ 28 (fun _ c1 => oL (v := .int .i64 ((ix p0 e).From)) ((a.old c1).cell0 (t (by rw [decide_eq_false d] <;> rfl)).1 (t (by rw [decide_eq_false d] <;> rfl)).2 rfl)) <| qd 29 (fun _ _ => op_gtr rfl rfl) (fun g => ?_) (fun g => ?_)
       ·refine qa 9 ((38, .bool true) :: (37, undef) :: (36, undef) :: (35, undef) :: (34, undef) :: (33, undef) :: (32, undef) :: (31, .bool true) :: (30, .bool true) :: _) rfl ?_
        exact leaf_q (sub_out 22 _ rfl (by kernel_rfl) ⟨(congrArg Value.bool (by rw [decide_eq_false d, decide_eq_true g] <;> rfl)), trivial⟩)
       ·refine qa 4 ((33, .int .i64 _) :: (32, .slice _ _ _) :: (31, .bool false) :: (30, .bool false) :: _) rfl <| q_ 34 (fun _ c1 => oI 5 rfl rfl ((a.old c1).addr (x (by rw [decide_eq_false d, decide_eq_false g] <;> rfl)).1 (x (by rw [decide_eq_false d, decide_eq_false g] <;> rfl)).2) b.2.2 (x (by rw [decide_eq_false d, decide_eq_false g] <;> rfl))) <| q_ 35 (fun _ c1 => oR [.int .i64 ((ix p0 e).From), .int .i64 ((ix p0 e).Base), .int .i64 ((ix p0 e).Empty), .int .i64 ((ix p0 e).Kilo), .int .i64 ((ix p0 e).Free)] ((a.old c1).row (x (by rw [decide_eq_false d, decide_eq_false g] <;> rfl)).1 (x (by rw [decide_eq_false d, decide_eq_false g] <;> rfl)).2)) <| wq_call 36 (by kernel_rfl) (fun w1 c1 => op_call (by kernel_rfl)) (fun w1 c1 => (m_recyclingref53_Usable_ok N w1 (ix p0 e)  K (V (by rw [decide_eq_false d, decide_eq_false g] <;> rfl))).mono (fun _ _ ⟨_, hx, hu⟩ => ⟨hx, c1.call hu⟩)) <| qa 2 ((38, .bool _) :: (37, .bool _) :: _) rfl ?_
        exact leaf_q (sub_out 22 _ rfl (by kernel_rfl) ⟨(congrArg Value.bool (by rw [decide_eq_false d, decide_eq_false g] <;> rfl)), trivial⟩)
     refine xm_next <| cm_condB (by kernel_rfl) rfl (fun X => ?_) (fun X => ?_)
     ·refine sr <| la 1 ((2, .int .i64 _) :: _) rfl <| nn <| cm_ret <| xm_inR <| xm_thenR <| xm_lret <| xm_inR <| xm_lret ?_
      exact xm_retT rfl (by kernel_rfl) (show _ = Value.int .i64 _ from rfl) fun w1 c1 => ⟨(), rfl, hsub [] (by kernel_rfl) rfl w1 c1⟩
     ·refine cm_skip <| xm_inN <| xm_next <| cm_region <| la 1 ((15, .int .i64 _) :: _) rfl <| lm_ck (fun Y => ?_)
      refine v_ 16 (fun _ _ => op_add rfl rfl Y) <| la 1 ((3, .int .i64 _) :: _) rfl <| lm_nil ?_
      exact xm_lnext () sq (sh [])
    ·refine cm_exit <| xm_thenE <| xm_lexit <| xm_here ?_
     exact xm_lnext () sq (sh [])
   intro C G
   refine cm_join (σ := Unit) (ξ := Unit) (fun y z => []) (fun y z => []) ?_ ?_
   ·refine sr <| la 1 ((4, .int .i64 _) :: _) rfl <| nn <| cm_block <| cm_loop (σ := Int) (ξ := Unit) (fun f B => [(0, .slice i j l), (4, .int .i64 f)]) (fun f B => []) () ?_ ?_ ?_
    ·exact sq
    ·exact sh []
    intro f B
    refine cm_seq <| sr <| la 2 ((40, .slice _ _ _) :: (39, .int .i64 _) :: _) rfl <| v_ 41 (fun _ _ => op_lenN rfl (by kernel_rfl) b.2.2) <| la 1 ((42, .bool _) :: _) rfl <| nn <| cm_cond (by kernel_rfl) rfl (fun L => ?_) (fun L => ?_)
    ·refine sk <| cm_seq <| cm_block <| cm_seq <| cm_ck (fun m => ?_)
     refine cm_ck (fun M => ?_)
     refine cm_ck (fun o => ?_)
     refine cm_drawn [(56, .bool (decide ((ix p0 f).From ≤ (ix p0 (f - (1 : Int))).From)))] (by kernel_rfl) (by kernel_rfl) ?_ ?_
     ·refine qa 2 ((46, .int .i64 _) :: (45, .slice _ _ _) :: _) rfl <| q_ 47 (fun _ c1 => oI 5 rfl rfl ((a.old c1).addr m.1 m.2) b.2.2 m) <| q_ 48 (fun _ _ => op_field0 rfl (by kernel_rfl)) <| q_ 49 (fun _ c1 => oL (v := .int .i64 ((ix p0 f).From)) ((a.old c1).cell0 m.1 m.2 rfl)) <| qa 2 ((51, .int .i64 _) :: (50, .slice _ _ _) :: _) rfl <| q_ 52 (fun _ _ => op_sub rfl rfl M) <| q_ 53 (fun _ c1 => oI 5 rfl rfl ((a.old c1).addr o.1 o.2) b.2.2 o) <| q_ 54 (fun _ _ => op_field0 rfl (by kernel_rfl)) <| q_ 55 (fun _ c1 => oL (v := .int .i64 ((ix p0 (f - (1 : Int))).From)) ((a.old c1).cell0 o.1 o.2 rfl)) <| qa 1 ((56, .bool _) :: _) rfl ?_
      exact lq 12
     refine xm_next <| cm_cond (by kernel_rfl) rfl (fun O => ?_) (fun O => ?_)
     ·refine sr <| la 1 ((2, .int .i64 _) :: _) rfl <| nn <| cm_ret <| xm_inR <| xm_thenR <| xm_lret <| xm_inR <| xm_lret ?_
      exact xm_retT rfl (by kernel_rfl) (show _ = Value.int .i64 _ from rfl) fun w1 c1 => ⟨(), rfl, hsub [] (by kernel_rfl) rfl w1 c1⟩
     ·refine cm_skip <| xm_inN <| xm_next <| cm_region <| la 1 ((43, .int .i64 _) :: _) rfl <| lm_ck (fun Q => ?_)
      refine v_ 44 (fun _ _ => op_add rfl rfl Q) <| la 1 ((4, .int .i64 _) :: _) rfl <| lm_nil ?_
      exact xm_lnext () sq (sh [])
    ·refine cm_exit <| xm_thenE <| xm_lexit <| xm_here ?_
     exact xm_lnext () sub_nil (sh [])
   intro y z
   refine sr <| la 1 ((2, .int .i64 _) :: _) rfl <| nn <| cm_ret ?_
   exact xm_retT rfl (by kernel_rfl) (show _ = Value.int .i64 _ from rfl) fun w1 c1 => ⟨(), rfl, hsub [] (by kernel_rfl) rfl w1 c1⟩
/-- recyclingref54.Check -/
def m_recyclingref54_Check (N : Nat) (p0 : ApiAccount) : Option (Int) :=
 Option.bind (m_recyclingref13_Check N p0.Containers (16 : Int) (64 : Int)) fun r6 => (if r6 ≠ 0 then
  some (r6)
 else
  Option.bind (m_recyclingref14_Check N p0.Households (List.length p0.Containers : Int) p0.Assigns) fun r9 => (if r9 ≠ 0 then
   some (r9)
  else
   Option.bind (m_recyclingref18_Check N p0.Emptyings (List.length p0.Containers : Int) (16 : Int)) fun a => (if a ≠ 0 then
    some (a)
   else
    Option.bind (m_recyclingref53_Check N p0.Tariffs) fun b => (if b ≠ 0 then
     some (b)
    else
     (if ((decide (p0.Gap < 0)) || (decide (86400 < p0.Gap))) = true then
      some ((1 : Int))
     else
      some ((0 : Int)))))))
set_option maxHeartbeats 2000000 in
set_option maxRecDepth 20000 in
theorem m_recyclingref54_Check_ok (N : Nat) (w0 : World) (p0 : ApiAccount) (a : Option Addr) (i : Nat) (j : Nat) (b : Option Addr) (l : Nat) (m : Nat) (d : Option Addr) (o : Nat) (q : Nat) (e : Option Addr) (t : Nat) (v : Nat) (f : Option Addr) (x : Nat) (y : Nat) (z : RdE w0 2 encApiHousehold a p0.Households) (B : SW a i j (List.length p0.Households)) (C : RdE w0 5 encApiContainer b p0.Containers) (g : SW b l m (List.length p0.Containers)) (G : RdE w0 4 encApiAssign d p0.Assigns) (J : SW d o q (List.length p0.Assigns)) (K : RdE w0 7 encApiEmptying e p0.Emptyings) (L : SW e t v (List.length p0.Emptyings)) (M : RdE w0 5 encApiTariff f p0.Tariffs) (O : SW f x y (List.length p0.Tariffs)) (r : Int) (hr : m_recyclingref54_Check N p0 = some r) :
  Ret Tryz.prog 12 [.agg #[.slice a i j, .slice b l m, .slice d o q, .slice e t v, .slice f x y, .int .i64 p0.Gap]] w0 (fun (r : Int) (_u : Unit) => .int .i64 r) (fun (_r : Int) (_u : Unit) => []) r := by
 refine calls_v (n := 47) r hr Tryz.func12 ?_
 unfold m_recyclingref54_Check
 refine sr <| lm_box 1 [.slice _ _ _, .slice _ _ _, .slice _ _ _, .slice _ _ _, .slice _ _ _, .int .i64 _] (by kernel_rfl) rfl ?_
 intro b5
 refine la 1 ((2, .int .i64 _) :: _) rfl <| nn <| cm_seq <| sr <| v_ 7 (fun _ _ => oF 1 1 rfl) <| v_ 8 (fun _ c1 => oL (c1.cell 0 (u := .slice _ _ _) rfl rfl)) <| lm_call 9 (V := (fun (r : Int) (_u : Unit) => .int .i64 r)) (HR := (fun (_r : Int) (_u : Unit) => [])) (by kernel_rfl) (fun w1 => op_call (by kernel_rfl)) (fun r1 hr1 w1 c1 => m_recyclingref13_Check_ok N w1 p0.Containers (16 : Int) (64 : Int) b l m (C.old c1) g r1 hr1) ?_
 intro r6 u7
 refine la 1 ((3, .int .i64 _) :: _) rfl <| nn <| sr <| la 2 ((11, .bool _) :: (10, .int .i64 _) :: _) rfl <| nn <| cm_cond (by kernel_rfl) rfl (fun h8 => ?_) (fun h8 => ?_)
 ·refine sr <| la 2 ((2, .int .i64 _) :: (12, .int .i64 _) :: _) rfl <| nn <| cm_ret <| xm_thenR ?_
  exact xm_retT rfl (by kernel_rfl) (show _ = Value.int .i64 _ from rfl) fun w1 c1 => ⟨(), rfl, hsub [] (by kernel_rfl) rfl w1 c1⟩
 ·refine sk <| cm_seq <| sr <| v_ 13 (fun _ _ => oF 0 0 rfl) <| v_ 14 (fun _ c1 => oL (c1.cell 0 (u := .slice _ _ _) rfl rfl)) <| v_ 15 (fun _ _ => oF 1 1 rfl) <| v_ 16 (fun _ c1 => oL (c1.cell 0 (u := .slice _ _ _) rfl rfl)) <| v_ 17 (fun _ _ => op_lenN rfl (by kernel_rfl) g.2.2) <| v_ 18 (fun _ _ => oF 2 2 rfl) <| v_ 19 (fun _ c1 => oL (c1.cell 0 (u := .slice _ _ _) rfl rfl)) <| lm_call 20 (V := (fun (r : Int) (_u : Unit) => .int .i64 r)) (HR := (fun (_r : Int) (_u : Unit) => [])) (by kernel_rfl) (fun w1 => op_call (by kernel_rfl)) (fun r1 hr1 w1 c1 => m_recyclingref14_Check_ok N w1 p0.Households (List.length p0.Containers : Int) p0.Assigns a i j d o q (z.old c1) B (G.old c1) J r1 hr1) ?_
  intro r9 a0
  refine la 1 ((4, .int .i64 _) :: _) rfl <| nn <| sr <| la 2 ((22, .bool _) :: (21, .int .i64 _) :: _) rfl <| nn <| cm_cond (by kernel_rfl) rfl (fun U => ?_) (fun U => ?_)
  ·refine sr <| la 2 ((2, .int .i64 _) :: (23, .int .i64 _) :: _) rfl <| nn <| cm_ret <| xm_thenR ?_
   exact xm_retT rfl (by kernel_rfl) (show _ = Value.int .i64 _ from rfl) fun w1 c1 => ⟨(), rfl, hsub [] (by kernel_rfl) rfl w1 c1⟩
  ·refine sk <| cm_seq <| sr <| v_ 24 (fun _ _ => oF 3 3 rfl) <| v_ 25 (fun _ c1 => oL (c1.cell 0 (u := .slice _ _ _) rfl rfl)) <| v_ 26 (fun _ _ => oF 1 1 rfl) <| v_ 27 (fun _ c1 => oL (c1.cell 0 (u := .slice _ _ _) rfl rfl)) <| v_ 28 (fun _ _ => op_lenN rfl (by kernel_rfl) g.2.2) <| lm_call 29 (V := (fun (r : Int) (_u : Unit) => .int .i64 r)) (HR := (fun (_r : Int) (_u : Unit) => [])) (by kernel_rfl) (fun w1 => op_call (by kernel_rfl)) (fun r1 hr1 w1 c1 => m_recyclingref18_Check_ok N w1 p0.Emptyings (List.length p0.Containers : Int) (16 : Int) e t v (K.old c1) L r1 hr1) ?_
   intro a1 a2
   refine la 1 ((5, .int .i64 _) :: _) rfl <| nn <| sr <| la 2 ((31, .bool _) :: (30, .int .i64 _) :: _) rfl <| nn <| cm_cond (by kernel_rfl) rfl (fun X => ?_) (fun X => ?_)
   ·refine sr <| la 2 ((2, .int .i64 _) :: (32, .int .i64 _) :: _) rfl <| nn <| cm_ret <| xm_thenR ?_
    exact xm_retT rfl (by kernel_rfl) (show _ = Value.int .i64 _ from rfl) fun w1 c1 => ⟨(), rfl, hsub [] (by kernel_rfl) rfl w1 c1⟩
   ·refine sk <| cm_seq <| sr <| v_ 33 (fun _ _ => oF 4 4 rfl) <| v_ 34 (fun _ c1 => oL (c1.cell 0 (u := .slice _ _ _) rfl rfl)) <| lm_call 35 (V := (fun (r : Int) (_u : Unit) => .int .i64 r)) (HR := (fun (_r : Int) (_u : Unit) => [])) (by kernel_rfl) (fun w1 => op_call (by kernel_rfl)) (fun r1 hr1 w1 c1 => m_recyclingref53_Check_ok N w1 p0.Tariffs f x y (M.old c1) O r1 hr1) ?_
    intro a3 a4
    refine la 1 ((6, .int .i64 _) :: _) rfl <| nn <| sr <| la 2 ((37, .bool _) :: (36, .int .i64 _) :: _) rfl <| nn <| cm_cond (by kernel_rfl) rfl (fun Y => ?_) (fun Y => ?_)
    ·refine sr <| la 2 ((2, .int .i64 _) :: (38, .int .i64 _) :: _) rfl <| nn <| cm_ret <| xm_thenR ?_
     exact xm_retT rfl (by kernel_rfl) (show _ = Value.int .i64 _ from rfl) fun w1 c1 => ⟨(), rfl, hsub [] (by kernel_rfl) rfl w1 c1⟩
    ·refine sk <| cm_seq <| cm_seq <| cm_cutE [(46, .bool ((decide (p0.Gap < 0)) || (decide (86400 < p0.Gap))))] ?_ ?_
     ·refine q_ 39 (fun _ _ => oF 5 5 rfl) <| q_ 40 (fun _ c1 => oL (c1.cell 0 (u := .int .i64 _) rfl rfl)) <| qd 41 (fun _ _ => op_lss rfl rfl) (fun Q => ?_) (fun Q => ?_)
      ·refine qa 5 ((46, .bool true) :: (45, undef) :: (44, undef) :: (43, undef) :: (42, .bool true) :: _) rfl ?_
       exact leaf_q (sub_out 8 _ rfl (by kernel_rfl) ⟨(congrArg Value.bool (by rw [decide_eq_true Q] <;> rfl)), trivial⟩)
      ·refine qa 1 ((42, .bool false) :: _) rfl <| q_ 43 (fun _ _ => oF 5 5 rfl) <| q_ 44 (fun _ c1 => oL (c1.cell 0 (u := .int .i64 _) rfl rfl)) <| qa 2 ((46, .bool _) :: (45, .bool _) :: _) rfl ?_
       exact leaf_q (sub_out 8 _ rfl (by kernel_rfl) ⟨(congrArg Value.bool (by rw [decide_eq_false Q] <;> rfl)), trivial⟩)
     refine xm_next <| cm_condB (by kernel_rfl) rfl (fun Z => ?_) (fun Z => ?_)
     ·refine sr <| la 1 ((2, .int .i64 _) :: _) rfl <| nn <| cm_ret <| xm_thenR ?_
      exact xm_retT rfl (by kernel_rfl) (show _ = Value.int .i64 _ from rfl) fun w1 c1 => ⟨(), rfl, hsub [] (by kernel_rfl) rfl w1 c1⟩
     ·refine sk <| sr <| la 1 ((2, .int .i64 _) :: _) rfl <| nn <| cm_ret ?_
      exact xm_retT rfl (by kernel_rfl) (show _ = Value.int .i64 _ from rfl) fun w1 c1 => ⟨(), rfl, hsub [] (by kernel_rfl) rfl w1 c1⟩
end Go.Proofs.YtbnimhmoffchdaaGreatDoor
