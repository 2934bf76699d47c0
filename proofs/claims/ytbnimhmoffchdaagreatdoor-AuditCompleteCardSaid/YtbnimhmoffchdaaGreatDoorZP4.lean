/- Models of functions, and that the code follows them. Written by deco.py. -/
import Derived.Test.YtbnimhmoffchdaaGreatDoorZP3
namespace Go.Proofs.YtbnimhmoffchdaaGreatDoor
open Go.RowKit
set_option linter.unusedSectionVars false
variable [JF]

/-- bill.Check -/
def m_bill_Check (N : Nat) (p0 : ApiAccount) : Option (Int) :=
 Option.bind (m_container_Check N p0.Containers (16 : Int) (64 : Int)) fun r6 => (if r6 ≠ 0 then
  some (r6)
 else
  Option.bind (m_household_Check N p0.Households (List.length p0.Containers : Int) p0.Assigns) fun r9 => (if r9 ≠ 0 then
   some (r9)
  else
   Option.bind (m_emptying_Check N p0.Emptyings (List.length p0.Containers : Int) (16 : Int)) fun a => (if a ≠ 0 then
    some (a)
   else
    Option.bind (m_tariff_Check N p0.Tariffs) fun b => (if b ≠ 0 then
     some (b)
    else
     (if ((decide (p0.Gap < 0)) || (decide (86400 < p0.Gap))) = true then
      some (1)
     else
      some (0))))))
set_option maxHeartbeats 2000000 in
set_option maxRecDepth 20000 in
theorem m_bill_Check_ok (N : Nat) (w0 : World) (p0 : ApiAccount) (a : Ad) (g i : Nat) (b : Ad) (j l : Nat) (d : Ad) (m o : Nat) (e : Ad) (q t : Nat) (f : Ad) (v x : Nat) (z : RdE w0 2 encApiHousehold a p0.Households) (C : SW a g i (List.length p0.Households)) (G : RdE w0 5 encApiContainer b p0.Containers) (y : SW b j l (List.length p0.Containers)) (J : RdE w0 4 encApiAssign d p0.Assigns) (K : SW d m o (List.length p0.Assigns)) (L : RdE w0 7 encApiEmptying e p0.Emptyings) (M : SW e q t (List.length p0.Emptyings)) (O : RdE w0 5 encApiTariff f p0.Tariffs) (Q : SW f v x (List.length p0.Tariffs)) (r : Int) (hr : m_bill_Check N p0 = some r) :
  Ret Tryz.prog 20 [.agg #[S a g i, S b j l, S d m o, S e q t, S f v x, I p0.Gap]] w0 VI H0 r := by
 refine calls_v (n := 47) r hr Tryz.func20 ?_
 unfold m_bill_Check
 refine sr <| bx 1 [S _ _ _, S _ _ _, S _ _ _, S _ _ _, S _ _ _, I _] rfl fun b5 => la 1 ((2, I _) :: _) rfl <| nn <| sr <| vf 8 1 1 rfl <| vc 9 0 rfl rfl rfl <| vn 10 y rfl <| la 1 ((3, I _) :: _) rfl <| nn <| cm_seq <| sr <| vf 11 1 1 rfl <| vc 12 0 rfl rfl rfl <| lc 13 (fun r1 hr1 w1 c1 => m_container_Check_ok N w1 p0.Containers (16 : Int) (64 : Int) b j l (G.old c1) y r1 hr1) fun r6 u7 => la 1 ((4, I _) :: _) rfl <| nn <| sr <| la 2 ((15, B _) :: (14, I _) :: _) rfl <| nn <| cc rfl (fun h8 => ?_) (fun h8 => ?_)
 ·exact sr <| la 2 ((2, I _) :: (16, I _) :: _) rfl <| nn <| cm_ret <| xm_thenR <| xr [] ()
 ·refine sk <| cm_seq <| sr <| vf 17 0 0 rfl <| vc 18 0 rfl rfl rfl <| la 1 ((19, I _) :: _) rfl <| vf 20 2 2 rfl <| vc 21 0 rfl rfl rfl <| lc 22 (fun r1 hr1 w1 c1 => m_household_Check_ok N w1 p0.Households (List.length p0.Containers : Int) p0.Assigns a g i d m o (z.old c1) C (J.old c1) K r1 hr1) fun r9 a0 => la 1 ((5, I _) :: _) rfl <| nn <| sr <| la 2 ((24, B _) :: (23, I _) :: _) rfl <| nn <| cc rfl (fun V => ?_) (fun V => ?_)
  ·exact sr <| la 2 ((2, I _) :: (25, I _) :: _) rfl <| nn <| cm_ret <| xm_thenR <| xr [] ()
  ·refine sk <| cm_seq <| sr <| vf 26 3 3 rfl <| vc 27 0 rfl rfl rfl <| la 1 ((28, I _) :: _) rfl <| lc 29 (fun r1 hr1 w1 c1 => m_emptying_Check_ok N w1 p0.Emptyings (List.length p0.Containers : Int) (16 : Int) e q t (L.old c1) M r1 hr1) fun a1 a2 => la 1 ((6, I _) :: _) rfl <| nn <| sr <| la 2 ((31, B _) :: (30, I _) :: _) rfl <| nn <| cc rfl (fun X => ?_) (fun X => ?_)
   ·exact sr <| la 2 ((2, I _) :: (32, I _) :: _) rfl <| nn <| cm_ret <| xm_thenR <| xr [] ()
   ·refine sk <| cm_seq <| sr <| vf 33 4 4 rfl <| vc 34 0 rfl rfl rfl <| lc 35 (fun r1 hr1 w1 c1 => m_tariff_Check_ok N w1 p0.Tariffs f v x (O.old c1) Q r1 hr1) fun a3 a4 => la 1 ((7, I _) :: _) rfl <| nn <| sr <| la 2 ((37, B _) :: (36, I _) :: _) rfl <| nn <| cc rfl (fun Y => ?_) (fun Y => ?_)
    ·exact sr <| la 2 ((2, I _) :: (38, I _) :: _) rfl <| nn <| cm_ret <| xm_thenR <| xr [] ()
    ·refine sk <| cm_seq <| cm_seq <| cm_cutE [(46, B ((decide (p0.Gap < 0)) || (decide (86400 < p0.Gap))))] ?_ ?_
     ·refine qf 39 5 5 rfl <| qc 40 0 rfl rfl rfl <| qd 41 (fun _ _ => op_lss rfl rfl) (fun U => ?_) (fun U => ?_)
      ·exact qa 5 ((46, B true) :: uz 45 3 ((42, B true) :: _)) rfl <| lb 8 rfl (by rw [dt U] <;> rfl)
      ·exact qa 1 ((42, B false) :: _) rfl <| qf 43 5 5 rfl <| qc 44 0 rfl rfl rfl <| qa 2 ((46, B _) :: (45, B _) :: _) rfl <| lb 8 rfl (by rw [df U] <;> rfl)
     refine xm_next <| cB rfl (fun Z => ?_) (fun Z => ?_)
     ·exact sr <| la 1 ((2, I _) :: _) rfl <| nn <| cm_ret <| xm_thenR <| xr [] ()
     ·exact sk <| sr <| la 1 ((2, I _) :: _) rfl <| nn <| cm_ret <| xr [] ()
end Go.Proofs.YtbnimhmoffchdaaGreatDoor
