/- Models of functions, and that the code follows them. Written by deco.py. -/
import Derived.Test.YtbnimhmoffchdaaGreatDoorZP3
namespace Go.Proofs.YtbnimhmoffchdaaGreatDoor
open Go.RowKit
set_option linter.unusedSectionVars false
variable [JF]

/-- bill.Check -/
def m_bill_Check (N : Nat) (p0 : ApiAccount) : Option (Int) :=
 Option.bind (m_container_Check N p0.Containers (16 : Int) (64 : Int)) fun r6 => (if r6 ≠ 0 then
  some (r6)
 else
  Option.bind (m_household_Check N p0.Households (List.length p0.Containers : Int) p0.Assigns) fun r9 => (if r9 ≠ 0 then
   some (r9)
  else
   Option.bind (m_emptying_Check N p0.Emptyings (List.length p0.Containers : Int) (16 : Int)) fun a => (if a ≠ 0 then
    some (a)
   else
    Option.bind (m_tariff_Check N p0.Tariffs) fun b => (if b ≠ 0 then
     some (b)
    else
     (if ((decide (p0.Gap < 0)) || (decide (86400 < p0.Gap))) = true then
      some ((1 : Int))
     else
      some ((0 : Int)))))))
set_option maxHeartbeats 2000000 in
set_option maxRecDepth 20000 in
theorem m_bill_Check_ok (N : Nat) (w0 : World) (p0 : ApiAccount) (a : Option Addr) (g : Nat) (i : Nat) (b : Option Addr) (j : Nat) (l : Nat) (d : Option Addr) (m : Nat) (o : Nat) (e : Option Addr) (q : Nat) (t : Nat) (f : Option Addr) (v : Nat) (x : Nat) (z : RdE w0 2 encApiHousehold a p0.Households) (B : SW a g i (List.length p0.Households)) (C : RdE w0 5 encApiContainer b p0.Containers) (y : SW b j l (List.length p0.Containers)) (G : RdE w0 4 encApiAssign d p0.Assigns) (J : SW d m o (List.length p0.Assigns)) (K : RdE w0 7 encApiEmptying e p0.Emptyings) (L : SW e q t (List.length p0.Emptyings)) (M : RdE w0 5 encApiTariff f p0.Tariffs) (O : SW f v x (List.length p0.Tariffs)) (r : Int) (hr : m_bill_Check N p0 = some r) :
  Ret Tryz.prog 20 [.agg #[.slice a g i, .slice b j l, .slice d m o, .slice e q t, .slice f v x, .int .i64 p0.Gap]] w0 (fun (r : Int) (_u : Unit) => .int .i64 r) (fun (_r : Int) (_u : Unit) => []) r := by
 refine calls_v (n := 47) r hr Tryz.func20 ?_
 unfold m_bill_Check
 refine sr <| lm_box 1 [.slice _ _ _, .slice _ _ _, .slice _ _ _, .slice _ _ _, .slice _ _ _, .int .i64 _] (by kernel_rfl) rfl ?_
 intro b5
 refine la 1 ((2, .int .i64 _) :: _) rfl <| nn <| sr <| v_ 8 (fun _ _ => oF 1 1 rfl) <| v_ 9 (fun _ c1 => oL (c1.cell 0 (u := .slice _ _ _) rfl rfl)) <| v_ 10 (fun _ _ => op_lenN rfl (by kernel_rfl) y.2.2) <| la 1 ((3, .int .i64 _) :: _) rfl <| nn <| cm_seq <| sr <| v_ 11 (fun _ _ => oF 1 1 rfl) <| v_ 12 (fun _ c1 => oL (c1.cell 0 (u := .slice _ _ _) rfl rfl)) ?_
 refine lm_call 13 (V := (fun (r : Int) (_u : Unit) => .int .i64 r)) (HR := (fun (_r : Int) (_u : Unit) => [])) (by kernel_rfl) (fun w1 => op_call (by kernel_rfl)) (fun r1 hr1 w1 c1 => m_container_Check_ok N w1 p0.Containers (16 : Int) (64 : Int) b j l (C.old c1) y r1 hr1) ?_
 intro r6 u7
 refine la 1 ((4, .int .i64 _) :: _) rfl <| nn <| sr <| la 2 ((15, .bool _) :: (14, .int .i64 _) :: _) rfl <| nn <| cm_cond (by kernel_rfl) rfl (fun h8 => ?_) (fun h8 => ?_)
 ·refine sr <| la 2 ((2, .int .i64 _) :: (16, .int .i64 _) :: _) rfl <| nn <| cm_ret <| xm_thenR ?_
  exact xm_retT rfl (by kernel_rfl) (show _ = Value.int .i64 _ from rfl) fun w1 c1 => ⟨(), rfl, hsub [] (by kernel_rfl) rfl w1 c1⟩
 ·refine sk <| cm_seq <| sr <| v_ 17 (fun _ _ => oF 0 0 rfl) <| v_ 18 (fun _ c1 => oL (c1.cell 0 (u := .slice _ _ _) rfl rfl)) <| la 1 ((19, .int .i64 _) :: _) rfl <| v_ 20 (fun _ _ => oF 2 2 rfl) <| v_ 21 (fun _ c1 => oL (c1.cell 0 (u := .slice _ _ _) rfl rfl)) <| lm_call 22 (V := (fun (r : Int) (_u : Unit) => .int .i64 r)) (HR := (fun (_r : Int) (_u : Unit) => [])) (by kernel_rfl) (fun w1 => op_call (by kernel_rfl)) (fun r1 hr1 w1 c1 => m_household_Check_ok N w1 p0.Households (List.length p0.Containers : Int) p0.Assigns a g i d m o (z.old c1) B (G.old c1) J r1 hr1) ?_
  intro r9 a0
  refine la 1 ((5, .int .i64 _) :: _) rfl <| nn <| sr <| la 2 ((24, .bool _) :: (23, .int .i64 _) :: _) rfl <| nn <| cm_cond (by kernel_rfl) rfl (fun U => ?_) (fun U => ?_)
  ·refine sr <| la 2 ((2, .int .i64 _) :: (25, .int .i64 _) :: _) rfl <| nn <| cm_ret <| xm_thenR ?_
   exact xm_retT rfl (by kernel_rfl) (show _ = Value.int .i64 _ from rfl) fun w1 c1 => ⟨(), rfl, hsub [] (by kernel_rfl) rfl w1 c1⟩
  ·refine sk <| cm_seq <| sr <| v_ 26 (fun _ _ => oF 3 3 rfl) <| v_ 27 (fun _ c1 => oL (c1.cell 0 (u := .slice _ _ _) rfl rfl)) <| la 1 ((28, .int .i64 _) :: _) rfl <| lm_call 29 (V := (fun (r : Int) (_u : Unit) => .int .i64 r)) (HR := (fun (_r : Int) (_u : Unit) => [])) (by kernel_rfl) (fun w1 => op_call (by kernel_rfl)) (fun r1 hr1 w1 c1 => m_emptying_Check_ok N w1 p0.Emptyings (List.length p0.Containers : Int) (16 : Int) e q t (K.old c1) L r1 hr1) ?_
   intro a1 a2
   refine la 1 ((6, .int .i64 _) :: _) rfl <| nn <| sr <| la 2 ((31, .bool _) :: (30, .int .i64 _) :: _) rfl <| nn <| cm_cond (by kernel_rfl) rfl (fun X => ?_) (fun X => ?_)
   ·refine sr <| la 2 ((2, .int .i64 _) :: (32, .int .i64 _) :: _) rfl <| nn <| cm_ret <| xm_thenR ?_
    exact xm_retT rfl (by kernel_rfl) (show _ = Value.int .i64 _ from rfl) fun w1 c1 => ⟨(), rfl, hsub [] (by kernel_rfl) rfl w1 c1⟩
   ·refine sk <| cm_seq <| sr <| v_ 33 (fun _ _ => oF 4 4 rfl) <| v_ 34 (fun _ c1 => oL (c1.cell 0 (u := .slice _ _ _) rfl rfl)) <| lm_call 35 (V := (fun (r : Int) (_u : Unit) => .int .i64 r)) (HR := (fun (_r : Int) (_u : Unit) => [])) (by kernel_rfl) (fun w1 => op_call (by kernel_rfl)) (fun r1 hr1 w1 c1 => m_tariff_Check_ok N w1 p0.Tariffs f v x (M.old c1) O r1 hr1) ?_
    intro a3 a4
    refine la 1 ((7, .int .i64 _) :: _) rfl <| nn <| sr <| la 2 ((37, .bool _) :: (36, .int .i64 _) :: _) rfl <| nn <| cm_cond (by kernel_rfl) rfl (fun Y => ?_) (fun Y => ?_)
    ·refine sr <| la 2 ((2, .int .i64 _) :: (38, .int .i64 _) :: _) rfl <| nn <| cm_ret <| xm_thenR ?_
     exact xm_retT rfl (by kernel_rfl) (show _ = Value.int .i64 _ from rfl) fun w1 c1 => ⟨(), rfl, hsub [] (by kernel_rfl) rfl w1 c1⟩
    ·refine sk <| cm_seq <| cm_seq <| cm_cutE [(46, .bool ((decide (p0.Gap < 0)) || (decide (86400 < p0.Gap))))] ?_ ?_
     ·refine q_ 39 (fun _ _ => oF 5 5 rfl) <| q_ 40 (fun _ c1 => oL (c1.cell 0 (u := .int .i64 _) rfl rfl)) <| qd 41 (fun _ _ => op_lss rfl rfl) (fun Q => ?_) (fun Q => ?_)
      ·refine qa 5 ((46, .bool true) :: (45, undef) :: (44, undef) :: (43, undef) :: (42, .bool true) :: _) rfl ?_
       exact leaf_q (sub_out 8 _ rfl (by kernel_rfl) ⟨(congrArg Value.bool (by rw [decide_eq_true Q] <;> rfl)), trivial⟩)
      ·refine qa 1 ((42, .bool false) :: _) rfl <| q_ 43 (fun _ _ => oF 5 5 rfl) <| q_ 44 (fun _ c1 => oL (c1.cell 0 (u := .int .i64 _) rfl rfl)) <| qa 2 ((46, .bool _) :: (45, .bool _) :: _) rfl ?_
       exact leaf_q (sub_out 8 _ rfl (by kernel_rfl) ⟨(congrArg Value.bool (by rw [decide_eq_false Q] <;> rfl)), trivial⟩)
     refine xm_next <| cm_condB (by kernel_rfl) rfl (fun Z => ?_) (fun Z => ?_)
     ·refine sr <| la 1 ((2, .int .i64 _) :: _) rfl <| nn <| cm_ret <| xm_thenR ?_
      exact xm_retT rfl (by kernel_rfl) (show _ = Value.int .i64 _ from rfl) fun w1 c1 => ⟨(), rfl, hsub [] (by kernel_rfl) rfl w1 c1⟩
     ·refine sk <| sr <| la 1 ((2, .int .i64 _) :: _) rfl <| nn <| cm_ret ?_
      exact xm_retT rfl (by kernel_rfl) (show _ = Value.int .i64 _ from rfl) fun w1 c1 => ⟨(), rfl, hsub [] (by kernel_rfl) rfl w1 c1⟩
end Go.Proofs.YtbnimhmoffchdaaGreatDoor
