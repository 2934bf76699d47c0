/- Models of functions, and that the code follows them. Written by deco.py. -/
import Derived.Test.YtbnimhmoffchdaaGreatDoorZP2
namespace Go.Proofs.YtbnimhmoffchdaaGreatDoor
open Go.RowKit
set_option linter.unusedSectionVars false
variable [JF]

/-- tariff.between -/
def m_tariff_between (_N : Nat) (p0 : Int) (p1 : Int) (p2 : Int) : Option (Bool) :=
 some (((decide (p0 ≤ p1)) && (decide (p1 ≤ p2))))
set_option maxRecDepth 20000 in
theorem m_tariff_between_ok (N : Nat) (w0 : World) (p0 p1 p2 : Int)   (r : Bool) (hr : m_tariff_between N p0 p1 p2 = some r) :
  Ret Tryz.prog 113 [I p0, I p1, I p2] w0 VB H0 r := by
 refine calls_v (n := 15) r hr Tryz.func113 ?_
 unfold m_tariff_between
 refine sr <| la 1 ((6, B false) :: _) rfl <| nn <| cm_seq <| cm_cutE [(6, B ((decide (p0 ≤ p1)) && (decide (p1 ≤ p2))))] ?_ ?_
 ·refine qa 2 ((8, I _) :: (7, I _) :: _) rfl <| qd 9 (fun _ _ => op_leq rfl rfl) (fun h5 => ?_) (fun h5 => ?_)
  ·exact qa 6 ((6, B _) :: (14, B _) :: (13, B _) :: (12, I _) :: (11, I _) :: (10, B true) :: _) rfl <| lb 9 rfl (by rw [dt h5] <;> rfl)
  ·exact qa 6 ((6, B false) :: (14, B false) :: uz 13 3 ((10, B false) :: _)) rfl <| lb 9 rfl (by rw [df h5] <;> rfl)
 exact xm_next <| cm_ret <| xr [] ()
/-- tariff.usable -/
def m_tariff_usable (N : Nat) (p0 : ApiTariff) : Option (Bool) :=
 Option.bind (m_tariff_between N (0 : Int) p0.Base (100000 : Int)) fun r6 => callIf (r6 = true) (m_tariff_between N (0 : Int) p0.Empty (100000 : Int)) fun r8 => callIf ((r6 && r8) = true) (m_tariff_between N (0 : Int) p0.Kilo (100000 : Int)) fun a => callIf (((r6 && r8) && a) = true) (m_tariff_between N (0 : Int) p0.Free (1000 : Int)) fun b => some ((((r6 && r8) && a) && b))
set_option maxRecDepth 20000 in
theorem m_tariff_usable_ok (N : Nat) (w0 : World) (p0 : ApiTariff)   (r : Bool) (hr : m_tariff_usable N p0 = some r) :
  Ret Tryz.prog 114 [.agg #[I p0.From, I p0.Base, I p0.Empty, I p0.Kilo, I p0.Free]] w0 VB H0 r := by
 refine calls_v (n := 21) r hr Tryz.func114 ?_
 unfold m_tariff_usable
 refine sr <| bx 1 [I _, I _, I _, I _, I _] rfl fun b5 => la 1 ((2, B false) :: _) rfl <| nn <| cm_seq <| cm_bind fun r6 h7 => cm_callIf fun r8 h9 => cm_callIf fun e g => cm_callIf fun f i => cm_cutE [(2, B (((r6 && r8) && e) && f))] ?_ ?_
 ·refine qf 3 1 1 rfl <| qc 4 0 rfl rfl rfl <| qkb 5 (fun w1 c1 => m_tariff_between_ok N w1 (0 : Int) p0.Base (100000 : Int)  r6 h7) (fun a => ?_) (fun a => ?_)
  ·refine qa 1 ((6, B true) :: _) rfl <| qf 7 2 2 rfl <| qc 8 0 rfl rfl rfl <| qkb 9 (fun w1 c1 => m_tariff_between_ok N w1 (0 : Int) p0.Empty (100000 : Int)  r8 (h9 (by rw [a] <;> rfl))) (fun b => ?_) (fun b => ?_)
   ·refine qa 2 ((11, B true) :: (10, B true) :: _) rfl <| qf 12 3 3 rfl <| qc 13 0 rfl rfl rfl <| qkb 14 (fun w1 c1 => m_tariff_between_ok N w1 (0 : Int) p0.Kilo (100000 : Int)  e (g (by rw [a, b] <;> rfl))) (fun d => ?_) (fun d => ?_)
    ·exact qa 2 ((16, B true) :: (15, B true) :: _) rfl <| qf 17 4 4 rfl <| qc 18 0 rfl rfl rfl <| qk 19 (fun w1 c1 => m_tariff_between_ok N w1 (0 : Int) p0.Free (1000 : Int)  f (i (by rw [a, b, d] <;> rfl))) <| qa 2 ((2, B _) :: (20, B _) :: _) rfl <| lb 19 rfl (by rw [a, b, d] <;> rfl)
    ·exact qa 7 ((2, B false) :: (20, B false) :: uz 19 3 ((16, B false) :: (15, B false) :: _)) rfl <| lb 19 rfl (by rw [a, b, d] <;> rfl)
   ·exact qa 12 ((2, B false) :: (20, B false) :: uz 19 3 ((16, B false) :: (15, B false) :: uz 14 3 ((11, B false) :: (10, B false) :: _))) rfl <| lb 19 rfl (by rw [a, b] <;> rfl)
  ·exact qa 16 ((2, B false) :: (20, B false) :: uz 19 3 ((16, B false) :: (15, B false) :: uz 14 3 ((11, B false) :: (10, B false) :: uz 9 3 ((6, B false) :: _)))) rfl <| lb 19 rfl (by rw [a] <;> rfl)
 exact xm_next <| cm_ret <| xr [] ()
/-- tariff.Check -/
def m_tariff_Check (N : Nat) (p0 : (List ApiTariff)) : Option (Int) :=
 (if (List.length p0 : Int) = 0 then
  some (10)
 else
  (if 8 < (List.length p0 : Int) then
   some (8)
  else
   (andThen
    (loopM (fun (b : Int) =>
     (if b < (List.length p0 : Int) then
      ck (0 ≤ b ∧ b < (List.length p0 : Int)) (
       Option.bind (m_tariff_between N (0 : Int) ((ix p0 b).From) (36524 : Int)) fun d => callIf ((!(!d)) = true) (m_tariff_usable N (ix p0 b)) fun e => (if ((!d) || (!e)) = true then
        some (.done (.done ((1 : Int))))
       else
        ck (I64 (b + 1)) (
         some (.next (b + 1)))))
     else
      some (.done (.next ())))) N 0)
   fun (_s43 : Unit) =>
    (andThen
     (loopM (fun (a : Int) =>
      (if a < (List.length p0 : Int) then
       ck (0 ≤ a ∧ a < (List.length p0 : Int)) (
        ck (I64 (a - 1)) (
         ck (0 ≤ (a - 1) ∧ (a - 1) < (List.length p0 : Int)) (
          (if (ix p0 a).From ≤ (ix p0 (a - 1)).From then
           some (.done (.done ((9 : Int))))
          else
           ck (I64 (a + 1)) (
            some (.next (a + 1)))))))
      else
       some (.done (.next ())))) N 1)
    fun (_s105 : Unit) =>
     some (0)))))
set_option maxHeartbeats 2000000 in
set_option maxRecDepth 20000 in
theorem m_tariff_Check_ok (N : Nat) (w0 : World) (p0 : (List ApiTariff)) (d : Ad) (f g : Nat) (b : RdE w0 5 encApiTariff d p0) (a : SW d f g (List.length p0)) (r : Int) (hr : m_tariff_Check N p0 = some r) :
  Ret Tryz.prog 57 [S d f g] w0 VI H0 r := by
 refine calls_v (n := 46) r hr Tryz.func57 ?_
 unfold m_tariff_Check
 refine sr <| la 1 ((2, I _) :: _) rfl <| nn <| cm_seq <| sr <| la 1 ((6, S _ _ _) :: _) rfl <| vn 7 a rfl <| la 1 ((8, B _) :: _) rfl <| nn <| cc rfl (fun h5 => ?_) (fun h5 => ?_)
 ·exact sr <| la 1 ((2, I _) :: _) rfl <| nn <| cm_ret <| xm_thenR <| xr [] ()
 ·refine sk <| cm_seq <| sr <| la 1 ((9, S _ _ _) :: _) rfl <| vn 10 a rfl <| la 1 ((11, B _) :: _) rfl <| nn <| cc rfl (fun h6 => ?_) (fun h6 => ?_)
  ·exact sr <| la 1 ((2, I _) :: _) rfl <| nn <| cm_ret <| xm_thenR <| xr [] ()
  ·refine sk <| cm_join (σ := Unit) (ξ := Unit) (fun x y => [(0, S d f g)]) (fun x y => []) ?_ ?_
   ·refine sr <| la 1 ((12, S _ _ _) :: _) rfl <| vn 13 a rfl <| la 1 ((14, I _) :: _) rfl <| nn <| cm_block <| cm_loop (σ := Int) (ξ := Unit) (fun i z => [(0, S d f g), (12, S d f g), (13, I (List.length p0 : Int)), (14, I i)]) (fun i z => []) () ?_ ?_ ?_
    ·exact sq
    ·exact sh []
    intro i z
    refine sr <| la 1 ((15, B _) :: _) rfl <| nn <| cm_seq <| cc rfl (fun Q => ?_) (fun Q => ?_)
    ·refine sk <| cm_seq <| cm_block <| sr <| lm_ck (fun C => ?_)
     refine vi 16 5 b a C rfl rfl <| vr 17 b C rfl <| al 4 [I 0, I 0, I 0, I 0, I 0] (v := .agg #[I 0, I 0, I 0, I 0, I 0]) rfl fun Z => sA 0 [I _, I _, I _, I _, I _] [_, _, _, _, _] (H' := [blkE _ _ [_, _, _, _, _]]) rfl rfl rfl rfl rfl rfl <| nn <| cm_seq <| cm_bind fun G U => cm_callIf fun J V => cm_cutE [(26, B ((!G) || (!J)))] ?_ ?_
     ·refine qf 18 0 0 rfl <| qc 19 0 rfl rfl rfl <| qkb 20 (fun w1 c1 => m_tariff_between_ok N w1 (0 : Int) ((ix p0 i).From) (36524 : Int)  G U) (fun m => ?_) (fun m => ?_)
      ·exact qa 2 ((22, B false) :: (21, B false) :: _) rfl <| qR 23 [I _, I _, I _, I _, I _] 0 rfl rfl rfl <| qk 24 (fun w1 c1 => m_tariff_usable_ok N w1 (ix p0 i)  J (V (by rw [m] <;> rfl))) <| qa 2 ((26, B _) :: (25, B _) :: _) rfl <| lb 9 rfl (by rw [m] <;> rfl)
      ·exact qa 6 ((26, B true) :: uz 25 3 ((22, B true) :: (21, B true) :: _)) rfl <| lb 9 rfl (by rw [m] <;> rfl)
     refine xm_next <| cB rfl (fun X => ?_) (fun X => ?_)
     ·exact sr <| la 1 ((2, I _) :: _) rfl <| nn <| cm_ret <| xm_inR <| xm_thenR <| xm_lret <| xm_inR <| xm_lret <| xr [] ()
     ·refine cm_skip <| xm_inN <| xm_next <| cm_region <| lm_ck (fun Y => ?_)
      exact va 27 Y rfl rfl <| la 1 ((14, I _) :: _) rfl <| lm_nil <| xn () []
    ·exact cm_exit <| xm_thenE <| xm_lexit <| xm_here <| xn () []
   intro x y
   refine cm_join (σ := Unit) (ξ := Unit) (fun o q => []) (fun o q => []) ?_ ?_
   ·refine sr <| la 1 ((5, I _) :: _) rfl <| nn <| cm_block <| cm_loop (σ := Int) (ξ := Unit) (fun e t => [(0, S d f g), (5, I e)]) (fun e t => []) () ?_ ?_ ?_
    ·exact sq
    ·exact sh []
    intro e t
    refine cm_seq <| sr <| la 2 ((29, S _ _ _) :: (28, I _) :: _) rfl <| vn 30 a rfl <| la 1 ((31, B _) :: _) rfl <| nn <| cc rfl (fun K => ?_) (fun K => ?_)
    ·refine sk <| cm_seq <| cm_block <| cm_seq <| cm_ck (fun j => ?_)
     refine cm_ck (fun L => ?_)
     refine cm_ck (fun l => ?_)
     refine cm_drawn [(45, B (decide ((ix p0 e).From ≤ (ix p0 (e - 1)).From)))] (by kernel_rfl) (by kernel_rfl) ?_ ?_
     ·exact qa 2 ((35, I _) :: (34, S _ _ _) :: _) rfl <| qi 36 5 b a j rfl rfl <| qF 37 rfl <| q_ 38 (fun _ c1 => oL (v := I ((ix p0 e).From)) ((b.old c1).cell0 j.1 j.2 rfl)) <| qa 2 ((40, I _) :: (39, S _ _ _) :: _) rfl <| q_ 41 (fun _ _ => op_sub rfl rfl L) <| qi 42 5 b a l rfl rfl <| qF 43 rfl <| q_ 44 (fun _ c1 => oL (v := I ((ix p0 (e - 1)).From)) ((b.old c1).cell0 l.1 l.2 rfl)) <| qa 1 ((45, B _) :: _) rfl <| lq 12
     refine xm_next <| cc rfl (fun M => ?_) (fun M => ?_)
     ·exact sr <| la 1 ((2, I _) :: _) rfl <| nn <| cm_ret <| xm_inR <| xm_thenR <| xm_lret <| xm_inR <| xm_lret <| xr [] ()
     ·refine cm_skip <| xm_inN <| xm_next <| cm_region <| la 1 ((32, I _) :: _) rfl <| lm_ck (fun O => ?_)
      exact va 33 O rfl rfl <| la 1 ((5, I _) :: _) rfl <| lm_nil <| xn () []
    ·exact cm_exit <| xm_thenE <| xm_lexit <| xm_here <| xm_lnext () sub_nil (sh [])
   intro o q
   exact sr <| la 1 ((2, I _) :: _) rfl <| nn <| cm_ret <| xr [] ()
/-- tariff.At -/
def m_tariff_At (N : Nat) (p0 : (List ApiTariff)) (p1 : Int) : Option (Int × Int) :=
 Option.bind (m_tariff_Check N p0) fun r5 => (if r5 ≠ 0 then
  some (((0 : Int), r5))
 else
  Option.bind (m_tariff_between N (0 : Int) p1 (36524 : Int)) fun r8 => (if (!r8) = true then
   some (((0 : Int), (1 : Int)))
  else
   (andThen
    (ck (I64 ((List.length p0 : Int) - 1)) (
     (loopM (fun (a : Int) =>
      (if 0 ≤ a then
       ck (0 ≤ a ∧ a < (List.length p0 : Int)) (
        (if (ix p0 a).From ≤ p1 then
         some (.done (.done ((a, (0 : Int)))))
        else
         ck (I64 (a - 1)) (
          some (.next (a - 1)))))
      else
       some (.done (.next ())))) N ((List.length p0 : Int) - 1))))
   fun (_s30 : Unit) =>
    some (((0 : Int), (7 : Int))))))
set_option maxHeartbeats 2000000 in
set_option maxRecDepth 20000 in
theorem m_tariff_At_ok (N : Nat) (w0 : World) (p0 : (List ApiTariff)) (p1 : Int) (a : Ad) (b d : Nat) (e : RdE w0 5 encApiTariff a p0) (f : SW a b d (List.length p0)) (r : Int × Int) (hr : m_tariff_At N p0 p1 = some r) :
  Ret Tryz.prog 75 [S a b d, I p1] w0 (fun (r : Int × Int) (_u : Unit) => .tuple #[I r.1, I r.2]) H0 r := by
 refine calls_v (n := 31) r hr Tryz.func75 ?_
 unfold m_tariff_At
 refine sr <| la 2 ((5, I _) :: (4, I _) :: _) rfl <| nn <| cm_seq <| sr <| la 1 ((8, S _ _ _) :: _) rfl <| lc 9 (fun r1 hr1 w1 c1 => m_tariff_Check_ok N w1 p0 a b d (e.old c1) f r1 hr1) fun r5 u6 => la 1 ((6, I _) :: _) rfl <| nn <| sr <| la 2 ((11, B _) :: (10, I _) :: _) rfl <| nn <| cc rfl (fun h7 => ?_) (fun h7 => ?_)
 ·exact sr <| la 3 ((5, I _) :: (4, I _) :: (12, I _) :: _) rfl <| nn <| cm_ret <| xm_thenR <| xrr [] ()
 ·refine sk <| cm_seq <| sr <| la 1 ((13, I _) :: _) rfl <| lc 14 (fun r1 hr1 w1 c1 => m_tariff_between_ok N w1 (0 : Int) p1 (36524 : Int)  r1 hr1) fun r8 u9 => la 1 ((15, B _) :: _) rfl <| nn <| cB rfl (fun o => ?_) (fun o => ?_)
  ·exact sr <| la 2 ((5, I _) :: (4, I _) :: _) rfl <| nn <| cm_ret <| xm_thenR <| xrr [] ()
  ·refine sk <| cm_join (σ := Unit) (ξ := Unit) (fun j l => []) (fun j l => []) ?_ ?_
   ·refine sr <| la 1 ((16, S _ _ _) :: _) rfl <| vn 17 f rfl <| lm_ck (fun q => ?_)
    refine v_ 18 (fun _ _ => op_sub rfl rfl q) <| la 1 ((7, I _) :: _) rfl <| nn <| cm_block <| cm_loop (σ := Int) (ξ := Unit) (fun g m => [(0, S a b d), (1, I p1), (7, I g)]) (fun g m => []) () ?_ ?_ ?_
    ·exact sq
    ·exact sh []
    intro g m
    refine cm_seq <| sr <| la 2 ((20, B _) :: (19, I _) :: _) rfl <| nn <| cc rfl (fun t => ?_) (fun t => ?_)
    ·refine sk <| cm_seq <| cm_block <| sr <| la 2 ((24, I _) :: (23, S _ _ _) :: _) rfl <| lm_ck (fun i => ?_)
     refine vi 25 5 e f i rfl rfl <| vF 26 rfl <| v_ 27 (fun _ c1 => oL (v := I ((ix p0 g).From)) ((e.old c1).cell0 i.1 i.2 rfl)) <| la 2 ((29, B _) :: (28, I _) :: _) rfl <| nn <| cc rfl (fun x => ?_) (fun x => ?_)
     ·exact sr <| la 3 ((5, I _) :: (4, I _) :: (30, I _) :: _) rfl <| nn <| cm_ret <| xm_inR <| xm_thenR <| xm_lret <| xm_inR <| xm_lret <| xrr [] ()
     ·refine cm_skip <| xm_inN <| xm_next <| cm_region <| la 1 ((21, I _) :: _) rfl <| lm_ck (fun y => ?_)
      exact v_ 22 (fun _ _ => op_sub rfl rfl y) <| la 1 ((7, I _) :: _) rfl <| lm_nil <| xn () []
    ·exact cm_exit <| xm_thenE <| xm_lexit <| xm_here <| xm_lnext () sub_nil (sh [])
   intro j l
   exact sr <| la 2 ((5, I _) :: (4, I _) :: _) rfl <| nn <| cm_ret <| xrr [] ()
/-- tariff.weighed -/
def m_tariff_weighed (_N : Nat) (p0 : ApiSpan) : Option (Bool) :=
 some ((((decide (0 ≤ p0.Lo)) && (decide (p0.Lo ≤ p0.Hi))) && (decide (p0.Hi ≤ 1073741824))))
set_option maxRecDepth 20000 in
theorem m_tariff_weighed_ok (N : Nat) (w0 : World) (p0 : ApiSpan)   (r : Bool) (hr : m_tariff_weighed N p0 = some r) :
  Ret Tryz.prog 147 [.agg #[I p0.Lo, I p0.Hi]] w0 VB H0 r := by
 refine calls_v (n := 18) r hr Tryz.func147 ?_
 unfold m_tariff_weighed
 refine sr <| bx 1 [I _, I _] rfl fun b5 => la 1 ((2, B false) :: _) rfl <| nn <| cm_seq <| cm_cutE [(2, B (((decide (0 ≤ p0.Lo)) && (decide (p0.Lo ≤ p0.Hi))) && (decide (p0.Hi ≤ 1073741824))))] ?_ ?_
 ·refine qf 3 0 0 rfl <| qc 4 0 rfl rfl rfl <| qd 5 (fun _ _ => op_leq rfl rfl) (fun h6 => ?_) (fun h6 => ?_)
  ·refine qa 1 ((6, B true) :: _) rfl <| qf 7 0 0 rfl <| qc 8 0 rfl rfl rfl <| qf 9 1 1 rfl <| qc 10 0 rfl rfl rfl <| qd 11 (fun _ _ => op_leq rfl rfl) (fun h7 => ?_) (fun h7 => ?_)
   ·exact qa 2 ((13, B true) :: (12, B true) :: _) rfl <| qf 14 1 1 rfl <| qc 15 0 rfl rfl rfl <| qa 3 ((2, B _) :: (17, B _) :: (16, B _) :: _) rfl <| lb 16 rfl (by rw [dt h6, dt h7] <;> rfl)
   ·exact qa 7 ((2, B false) :: (17, B false) :: uz 16 3 ((13, B false) :: (12, B false) :: _)) rfl <| lb 16 rfl (by rw [dt h6, df h7] <;> rfl)
  ·exact qa 13 ((2, B false) :: (17, B false) :: uz 16 3 ((13, B false) :: (12, B false) :: uz 11 5 ((6, B false) :: _))) rfl <| lb 16 rfl (by rw [df h6] <;> rfl)
 exact xm_next <| cm_ret <| xr [] ()
/-- tariff.Weight -/
def m_tariff_Weight (N : Nat) (p0 : ApiTariff) (p1 : ApiSpan) : Option (Int × Int) :=
 Option.bind (m_tariff_usable N p0) fun r7 => callIf ((!(!r7)) = true) (m_tariff_weighed N p1) fun r9 => (if ((!r7) || (!r9)) = true then
  some (((0 : Int), (1 : Int)))
 else
  ck (I64 p1.Lo) (
   ck (I64 ((Int.tdiv p1.Lo 1000) - p0.Free)) (
    some (((max (0 : Int) ((Int.tdiv p1.Lo 1000) - p0.Free)), (0 : Int))))))
set_option maxRecDepth 20000 in
theorem m_tariff_Weight_ok (N : Nat) (w0 : World) (p0 : ApiTariff) (p1 : ApiSpan)   (r : Int × Int) (hr : m_tariff_Weight N p0 p1 = some r) :
  Ret Tryz.prog 127 [.agg #[I p0.From, I p0.Base, I p0.Empty, I p0.Kilo, I p0.Free], .agg #[I p1.Lo, I p1.Hi]] w0 (fun (r : Int × Int) (_u : Unit) => .tuple #[I r.1, I r.2]) H0 r := by
 refine calls_v (n := 21) r hr Tryz.func127 ?_
 unfold m_tariff_Weight
 refine sr <| bx 2 [I _, I _, I _, I _, I _] rfl fun b5 => bx 3 [I _, I _] rfl fun b6 => la 2 ((5, I _) :: (4, I _) :: _) rfl <| nn <| cm_seq <| cm_seq <| cm_bind fun r7 h8 => cm_callIf fun r9 b => cm_cutE [(13, B ((!r7) || (!r9)))] ?_ ?_
 ·refine qR 6 [I _, I _, I _, I _, I _] 1 rfl rfl rfl <| qkb 7 (fun w1 c1 => m_tariff_usable_ok N w1 p0  r7 h8) (fun a => ?_) (fun a => ?_)
  ·exact qa 2 ((9, B false) :: (8, B false) :: _) rfl <| qR 10 [I _, I _] 0 rfl rfl rfl <| qk 11 (fun w1 c1 => m_tariff_weighed_ok N w1 p1  r9 (b (by rw [a] <;> rfl))) <| qa 2 ((13, B _) :: (12, B _) :: _) rfl <| lb 8 rfl (by rw [a] <;> rfl)
  ·exact qa 6 ((13, B true) :: uz 12 3 ((9, B true) :: (8, B true) :: _)) rfl <| lb 8 rfl (by rw [a] <;> rfl)
 refine xm_next <| cB rfl (fun d => ?_) (fun d => ?_)
 ·exact sr <| la 2 ((5, I _) :: (4, I _) :: _) rfl <| nn <| cm_ret <| xm_thenR <| xrr [] ()
 ·refine sk <| sr <| vf 14 0 0 rfl <| vc 15 0 rfl rfl rfl <| lm_ck (fun e => ?_)
  refine v_ 16 (fun _ _ => op_quoK rfl rfl (by kernel_rfl) e) <| vf 17 4 4 rfl <| vc 18 1 rfl rfl rfl <| lm_ck (fun f => ?_)
  exact v_ 19 (fun _ _ => op_sub rfl rfl f) <| v_ 20 (fun _ _ => op_max rfl rfl) <| la 2 ((5, I _) :: (4, I _) :: _) rfl <| nn <| cm_ret <| xrr [] ()
/-- tariff.priced -/
def m_tariff_priced (_N : Nat) (p0 : Int) : Option (Int) :=
 some (p0)
set_option maxRecDepth 20000 in
theorem m_tariff_priced_ok (N : Nat) (w0 w : World) (F : List HE) (p0 : Int)   (hw : Hs w0 ([] ++ [packE w0.heap.size F]) w) (r : Int) (hr : m_tariff_priced N p0 = some r) :
  Calls Tryz.prog 59 [I p0].toArray w fun x w1 => ∃ u, x = .returned ((fun (_r : Int) (u : Nat) => (.func (.func 115) #[] #[.pointer (some ⟨u, 0, none⟩)] : Value)) r u) ∧ Hs w0 ((fun (r : Int) (u : Nat) => [blkE u 3 [I r]]) r u ++ [packE w0.heap.size F]) w1 := by
 refine calls_cmH (n := 4) (R := fun r x w1 => ∃ u, x = .returned ((fun (_r : Int) (u : Nat) => (.func (.func 115) #[] #[.pointer (some ⟨u, 0, none⟩)] : Value)) r u) ∧ Hs w0 ((fun (r : Int) (u : Nat) => [blkE u 3 [I r]]) r u ++ [packE w0.heap.size F]) w1) Tryz.func59 rfl rfl (Nat.le_of_ble_eq_true rfl) ?_ hw r hr
 unfold m_tariff_priced
 exact sr <| bx 1 [I _] rfl fun b6 => la 1 ((2, .nilFunc) :: _) rfl <| nn <| sr <| v_ 3 (fun _ _ => op_makeFuncC [.pointer (some ⟨_, _, _⟩)] rfl) <| la 1 ((2, .func _ _ _) :: _) rfl <| nn <| cm_ret <| xr [0, 1] b6
/-- tariff.priced$1 -/
def m_tariff_priced_1 (_N : Nat) (p0 : Int) (p1 : Int) (p2 : Int) (q0 : Int) : Option (ApiItem) :=
 ck (I64 (p1 * p2)) (
  some ((ApiItem.mk q0 p0 p1 p2 (p1 * p2))))
set_option maxRecDepth 20000 in
theorem m_tariff_priced_1_ok (N : Nat) (w0 : World) (p0 p1 : Int) (p2 q0 : Int) (a : Nat) (b : Blk w0 a 3 [I q0]) (r : ApiItem) (hr : m_tariff_priced_1 N p0 p1 p2 q0 = some r) :
  Ret Tryz.prog 115 [I p0, I p1, I p2, .pointer (some ⟨a, 0, none⟩)] w0 (fun (r : ApiItem) (_u : Unit) => .agg #[I r.Kind, I r.Ref, I r.Count, I r.Price, I r.Amount]) H0 r := by
 refine calls_v (n := 16) r hr Tryz.func115 ?_
 unfold m_tariff_priced_1
 refine sr <| al 7 [I 0, I 0, I 0, I 0, I 0] (v := .agg #[I 0, I 0, I 0, I 0, I 0]) rfl fun b5 => nn <| sr <| v_ 8 (fun _ c1 => oL (c1.ocell (b.at_ 0 (u := I _) rfl))) <| la 5 ((13, I _) :: (12, I _) :: (11, I _) :: (10, I _) :: (9, I _) :: _) rfl <| lm_ck (fun h6 => ?_)
 exact v_ 14 (fun _ _ => op_mul rfl rfl h6) <| v_ 15 (fun _ _ => op_build (z := [I 0, I 0, I 0, I 0, I 0]) (tab := [(0, 1), (1, 1), (2, 1), (3, 1), (4, 1)]) (cs := [I _, I _, I _, I _, I _]) [(0, [I _]), (1, [I _]), (2, [I _]), (3, [I _]), (4, [I _])] (by kernel_rfl) (by kernel_rfl) (fillOk_cons rfl rfl rfl (fillOk_cons rfl rfl rfl (fillOk_cons rfl rfl rfl (fillOk_cons rfl rfl rfl (fillOk_cons rfl rfl rfl fillOk_nil))))) rfl) <| sA 0 [I _, I _, I _, I _, I _] [_, _, _, _, _] (H' := [blkE _ _ [_, _, _, _, _]]) rfl rfl rfl rfl rfl rfl <| nn <| cm_ret <| xm_retC rfl (by kernel_rfl) (show _ = Value.pointer (some ⟨_, 0, none⟩) from rfl) (by kernel_rfl) (fun w1 c1 => c1.cells 0 (ds := [I _, I _, I _, I _, I _]) rfl rfl) fun w1 c1 => ⟨(), rfl, hs [] c1⟩
/-- tariff.Items -/
def m_tariff_Items (N : Nat) (p0 : ApiTariff) (p1 : ApiEmptying) : Option ((List ApiItem) × Int) :=
 Option.bind (m_tariff_Weight N p0 p1.Mass) fun r7 => callIf ((!(decide (r7.2 ≠ 0))) = true) (m_tariff_between N (1 : Int) p1.ID (1000000 : Int)) fun r9 => (if ((decide (r7.2 ≠ 0)) || (!r9)) = true then
  some ((([] : List ApiItem), (1 : Int)))
 else
  Option.bind (m_tariff_priced N 2) fun f => Option.bind (m_tariff_priced_1 N p1.ID (1 : Int) p0.Empty f) fun a => (andThen
   (if 0 < r7.1 then
    Option.bind (m_tariff_priced N 3) fun d => Option.bind (m_tariff_priced_1 N p1.ID r7.1 p0.Kilo d) fun b => ck ((List.length ([a]) + List.length ([b])) * 40 ≤ 140737488355328) (
     some (.next (([a]) ++ ([b]))))
   else
    some (.next ([a])))
  fun (e : (List ApiItem)) =>
   some ((e, (0 : Int)))))
set_option maxHeartbeats 2000000 in
set_option maxRecDepth 20000 in
theorem m_tariff_Items_ok (N : Nat) (w0 : World) (p0 : ApiTariff) (p1 : ApiEmptying)   (r : (List ApiItem) × Int) (hr : m_tariff_Items N p0 p1 = some r) :
  Ret Tryz.prog 76 [.agg #[I p0.From, I p0.Base, I p0.Empty, I p0.Kilo, I p0.Free], .agg #[I p1.ID, I p1.Container, I p1.Vehicle, I p1.At, I p1.Mass.Lo, I p1.Mass.Hi, B p1.Void]] w0 (fun (r : (List ApiItem) × Int) (u : Hdr) => .tuple #[S u.1 u.2.1 u.2.2, I r.2]) (fun (r : (List ApiItem) × Int) (u : Hdr) => [ownE 100 5 encApiItem u.1 u.2.1 u.2.2 r.1]) r := by
 refine calls_v (n := 44) r hr Tryz.func76 ?_
 unfold m_tariff_Items
 refine sr <| bx 2 [I _, I _, I _, I _, I _] rfl fun b5 => bx 3 [I _, I _, I _, I _, I _, I _, B _] rfl fun b6 => la 2 ((5, I _) :: (4, S _ _ _) :: _) rfl <| nn <| sr <| vR 10 [I _, I _, I _, I _, I _] 1 rfl rfl rfl <| vf 11 4 4 rfl <| vR 12 [I _, I _] 0 rfl rfl rfl <| lc 13 (fun r1 hr1 w1 c1 => m_tariff_Weight_ok N w1 p0 p1.Mass  r1 hr1) fun r7 u8 => la 5 ((7, I _) :: (6, I _) :: (15, I _) :: (14, I _) :: (9, .tuple _) :: _) rfl <| nn <| cm_seq <| cm_seq <| cm_callIf fun r9 a7 => cm_cutE [(23, B ((decide (r7.2 ≠ 0)) || (!r9)))] ?_ ?_
 ·refine qa 1 ((16, I _) :: _) rfl <| qd 17 (fun _ _ => op_neq rfl rfl) (fun C => ?_) (fun C => ?_)
  ·exact qa 6 ((23, B true) :: uz 22 4 ((18, B true) :: _)) rfl <| lb 8 rfl (by rw [dt C] <;> rfl)
  ·exact qa 1 ((18, B false) :: _) rfl <| qf 19 0 0 rfl <| qc 20 0 rfl rfl rfl <| qk 21 (fun w1 c1 => m_tariff_between_ok N w1 (1 : Int) p1.ID (1000000 : Int)  r9 (a7 (by rw [df C] <;> rfl))) <| qa 2 ((23, B _) :: (22, B _) :: _) rfl <| lb 8 rfl (by rw [df C] <;> rfl)
 refine xm_next <| cB rfl (fun a8 => ?_) (fun a8 => ?_)
 ·exact sr <| la 2 ((5, I _) :: (4, S _ _ _) :: _) rfl <| nn <| cm_ret <| xm_thenR <| xm_nilrow 100 5 encApiItem <| xrr [0] (none, 0, 0)
 ·refine sk <| cm_seq <| cm_bind fun j a9 => cm_bind fun g aa => cm_held (ξ := Hdr) (fun a => [(2, .pointer (some ⟨b5, 0, none⟩)), (3, .pointer (some ⟨b6, 0, none⟩)), (6, I r7.1), (8, S a.1 a.2.1 a.2.2)]) (fun a => [blkE b5 108 [I p0.From, I p0.Base, I p0.Empty, I p0.Kilo, I p0.Free], blkE b6 117 [I p1.ID, I p1.Container, I p1.Vehicle, I p1.At, I p1.Mass.Lo, I p1.Mass.Hi, B p1.Void], ownE 100 5 encApiItem a.1 a.2.1 a.2.2 ([g])]) [blkE b6 117 [I p1.ID, I p1.Container, I p1.Vehicle, I p1.At, I p1.Mass.Lo, I p1.Mass.Hi, B p1.Void], blkE b5 108 [I p0.From, I p0.Base, I p0.Empty, I p0.Kilo, I p0.Free]] 8 (by kernel_rfl) (by rfl) (hsub [0, 1] (by kernel_rfl) (by rfl)) ?_ ?_
  ·intro ah o
   refine wt 1 25 rfl (fun _ _ => oF 0 0 rfl) (hs [0, 1] o) <| wt 2 26 rfl (fun w2 c2 => oL (c2.cell 0 (u := I _) rfl rfl)) (hs [0, 1] o) <| wt 3 27 rfl (fun _ _ => oF 2 2 rfl) (hs [0, 1] o) <| wt 4 28 rfl (fun w2 c2 => oL (c2.cell 1 (u := I _) rfl rfl)) (hs [0, 1] o) <| wh_ready [0] (by kernel_rfl) rfl ⟨?_, trivial⟩
   refine ws_callH 24 (V := fun (u : Nat) => (fun (_r : Int) (u : Nat) => (.func (.func 115) #[] #[.pointer (some ⟨u, 0, none⟩)] : Value)) j u) [] [blkE b6 117 [I p1.ID, I p1.Container, I p1.Vehicle, I p1.At, I p1.Mass.Lo, I p1.Mass.Hi, B p1.Void], blkE b5 108 [I p0.From, I p0.Base, I p0.Empty, I p0.Kilo, I p0.Free]] (O := fun (u : Nat) => (fun (r : Int) (u : Nat) => [blkE u 3 [I r]]) j u) (sh [0, 1]) rfl (by kernel_rfl) (op_call (by kernel_rfl)) o (fun c1 => m_tariff_priced_ok N w0 _ [blkE b6 117 [I p1.ID, I p1.Container, I p1.Vehicle, I p1.At, I p1.Mass.Lo, I p1.Mass.Hi, B p1.Void], blkE b5 108 [I p0.From, I p0.Base, I p0.Empty, I p0.Kilo, I p0.Free]] (2 : Int)  c1 j a9) fun J ai K => ⟨(hs [1, 2] K), ?_⟩
   refine wh_strong (Hs w0 [blkE J 3 [I j], blkE b6 117 [I p1.ID, I p1.Container, I p1.Vehicle, I p1.At, I p1.Mass.Lo, I p1.Mass.Hi, B p1.Void], blkE b5 108 [I p0.From, I p0.Base, I p0.Empty, I p0.Kilo, I p0.Free]]) (fun w2 c2 => hs [1, 2] c2) <| wh_ready [5] (by kernel_rfl) rfl ⟨?_, trivial⟩
   refine ws_call 29 rfl (by kernel_rfl) (op_callv rfl (by kernel_rfl)) (m_tariff_priced_1_ok N _ p1.ID (1 : Int) p0.Empty j J (K.blk 0 rfl) g aa) ?_
   rintro x aj ⟨ak, rfl, G⟩
   replace G := K.call G
   refine ⟨_, rfl, (hs [0, 1, 2] G), ?_⟩
   refine wh_ready [6] (by kernel_rfl) rfl ⟨?_, trivial⟩
   refine ws_sliceN 30 (el := 100) (sz := 5) (bytes := 40) (enc := encApiItem) [g] rfl (by kernel_rfl) (by kernel_rfl) encApiItem_len rfl ⟨rfl, rfl, trivial⟩ (by kernel_rfl) (by kernel_rfl) G fun M Q U am L => ⟨(hs [1, 2, 3] L), ?_⟩
   exact wh_strong (Hs w0 [ownE 100 5 encApiItem M Q U ([g]), blkE J 3 [I j], blkE b6 117 [I p1.ID, I p1.Container, I p1.Vehicle, I p1.At, I p1.Mass.Lo, I p1.Mass.Hi, B p1.Void], blkE b5 108 [I p0.From, I p0.Base, I p0.Empty, I p0.Kilo, I p0.Free]]) (fun w2 c2 => hs [1, 2, 3] c2) <| wt 7 8 rfl (fun w2 c2 => (op_assign (v := S _ _ _) rfl)) (hs [0, 1, 2, 3] L) <| wh_done (M, Q, U) (by kernel_rfl) sq (hs [3, 2, 0] L)
  intro a
  refine xm_next <| cm_join (σ := (List ApiItem)) (ξ := Hdr) (fun q b => [(8, S b.1 b.2.1 b.2.2)]) (fun q b => [ownE 100 5 encApiItem b.1 b.2.1 b.2.2 q]) ?_ ?_
  ·refine sr <| la 2 ((32, B _) :: (31, I _) :: _) rfl <| nn <| cc rfl (fun X => ?_) (fun X => ?_)
   ·refine cm_bind fun f Y => cm_bind fun i Z => cm_ck (fun a0 => ?_)
    refine cm_of_then <| cm_held (ξ := Hdr) (fun d => [(8, S d.1 d.2.1 d.2.2)]) (fun d => [ownE 100 5 encApiItem d.1 d.2.1 d.2.2 (([g]) ++ ([i]))]) [blkE b5 108 [I p0.From, I p0.Base, I p0.Empty, I p0.Kilo, I p0.Free], blkE b6 117 [I p1.ID, I p1.Container, I p1.Vehicle, I p1.At, I p1.Mass.Lo, I p1.Mass.Hi, B p1.Void]] 11 (by kernel_rfl) (by rfl) (hsub [0, 1] (by kernel_rfl) (by rfl)) ?_ ?_
    ·intro ab e
     refine wt 0 33 rfl (fun w2 c2 => (op_move (v := S _ _ _) rfl)) (hs [0, 1] e) <| wt 2 35 rfl (fun _ _ => oF 0 0 rfl) (hs [0, 1] e) <| wt 3 36 rfl (fun w2 c2 => oL (c2.cell 1 (u := I _) rfl rfl)) (hs [0, 1] e) <| wt 4 37 rfl (fun w2 c2 => (op_move (v := I _) rfl)) (hs [0, 1] e) <| wt 5 38 rfl (fun _ _ => oF 3 3 rfl) (hs [0, 1] e) <| wt 6 39 rfl (fun w2 c2 => oL (c2.cell 0 (u := I _) rfl rfl)) (hs [0, 1] e) <| wh_ready [1] (by kernel_rfl) rfl ⟨?_, trivial⟩
     refine ws_callH 34 (V := fun (u : Nat) => (fun (_r : Int) (u : Nat) => (.func (.func 115) #[] #[.pointer (some ⟨u, 0, none⟩)] : Value)) f u) [] [blkE b5 108 [I p0.From, I p0.Base, I p0.Empty, I p0.Kilo, I p0.Free], blkE b6 117 [I p1.ID, I p1.Container, I p1.Vehicle, I p1.At, I p1.Mass.Lo, I p1.Mass.Hi, B p1.Void], ownE 100 5 encApiItem a.1 a.2.1 a.2.2 ([g])] (O := fun (u : Nat) => (fun (r : Int) (u : Nat) => [blkE u 3 [I r]]) f u) (sh [0, 1, 2]) rfl (by kernel_rfl) (op_call (by kernel_rfl)) e (fun c1 => m_tariff_priced_ok N w0 _ [blkE b5 108 [I p0.From, I p0.Base, I p0.Empty, I p0.Kilo, I p0.Free], blkE b6 117 [I p1.ID, I p1.Container, I p1.Vehicle, I p1.At, I p1.Mass.Lo, I p1.Mass.Hi, B p1.Void], ownE 100 5 encApiItem a.1 a.2.1 a.2.2 ([g])] (3 : Int)  c1 f Y) fun t ac y => ⟨(hs [1, 2] y), ?_⟩
     refine wh_strong (Hs w0 [blkE t 3 [I f], blkE b5 108 [I p0.From, I p0.Base, I p0.Empty, I p0.Kilo, I p0.Free], blkE b6 117 [I p1.ID, I p1.Container, I p1.Vehicle, I p1.At, I p1.Mass.Lo, I p1.Mass.Hi, B p1.Void]]) (fun w2 c2 => hs [1, 2] c2) <| wh_ready [7] (by kernel_rfl) rfl ⟨?_, trivial⟩
     refine ws_call 40 rfl (by kernel_rfl) (op_callv rfl (by kernel_rfl)) (m_tariff_priced_1_ok N _ p1.ID r7.1 p0.Kilo f t (y.blk 0 rfl) i Z) ?_
     rintro x ad ⟨ae, rfl, l⟩
     replace l := y.call l
     refine ⟨_, rfl, (hs [0, 1, 2] l), ?_⟩
     refine wh_ready [8] (by kernel_rfl) rfl ⟨?_, trivial⟩
     refine ws_sliceN 41 (el := 100) (sz := 5) (bytes := 40) (enc := encApiItem) [i] rfl (by kernel_rfl) (by kernel_rfl) encApiItem_len rfl ⟨rfl, rfl, trivial⟩ (by kernel_rfl) (by kernel_rfl) l fun a1 a2 a3 af m => ⟨(hs [1, 2, 3] m), ?_⟩
     refine wh_strong (Hs w0 [ownE 100 5 encApiItem a1 a2 a3 ([i]), blkE t 3 [I f], blkE b5 108 [I p0.From, I p0.Base, I p0.Empty, I p0.Kilo, I p0.Free], blkE b6 117 [I p1.ID, I p1.Container, I p1.Vehicle, I p1.At, I p1.Mass.Lo, I p1.Mass.Hi, B p1.Void]]) (fun w2 c2 => hs [1, 2, 3] c2) <| wh_ready [9] (by kernel_rfl) rfl ⟨?_, trivial⟩
     refine ws_append 42 4 (el := 100) (sz := 5) (bytes := 40) (enc := encApiItem) (l2 := ([i])) rfl (by kernel_rfl) (by kernel_rfl) encApiItem_len encApiItem_one rfl rfl rfl (m.ownZ 0 rfl) (m.own 0 rfl encApiItem_len) a0 (by kernel_rfl) m fun a4 a5 a6 ag z => ⟨(hs [0, 1, 2, 3] z), ?_⟩
     exact wt 10 8 rfl (fun w2 c2 => (op_assign (v := S _ _ _) rfl)) (hs [0, 1, 2, 3] z) <| wh_done (a4, a5, a6) (by kernel_rfl) sq (hs [4] z)
    intro d
    exact xm_of_then <| xn (d.1, d.2.1, d.2.2) [0]
   ·exact cm_skip <| xn (a.1, a.2.1, a.2.2) [2]
  intro q b
  exact sr <| la 3 ((5, I _) :: (4, S _ _ _) :: (43, S _ _ _) :: _) rfl <| nn <| cm_ret <| xrr [0] (b.1, b.2.1, b.2.2)
/-- tariff.Base -/
def m_tariff_Base (N : Nat) (p0 : (List ApiTariff)) (p1 : ApiWindow) : Option ((List ApiItem) × Int) :=
 Option.bind (m_tariff_Check N p0) fun r6 => (if r6 ≠ 0 then
  some ((([] : List ApiItem), r6))
 else
  (if (((decide (p1.From < 0)) || (decide (p1.To < p1.From))) || (decide (36525 < p1.To))) = true then
   some ((([] : List ApiItem), (1 : Int)))
  else
   ck (decide (p1.From < p1.To) = true → (0 : Int) ≤ 0 ∧ 0 < (List.length p0 : Int)) (
    (if ((decide (p1.From < p1.To)) && (decide (p1.From < (ix p0 0).From))) = true then
     some ((([] : List ApiItem), (7 : Int)))
    else
     Option.bind (m_tariff_priced N 1) fun g => (andThen
      (loopM (fun (a : (List ApiItem) × Int) =>
       (if a.2 < (List.length p0 : Int) then
        (andThen
         (ck (0 ≤ a.2 ∧ a.2 < (List.length p0 : Int)) (
          (andThen
           (ck (I64 (a.2 + 1)) (
            (if (a.2 + 1) < (List.length p0 : Int) then
             ck (I64 (a.2 + 1)) (
              ck (0 ≤ (a.2 + 1) ∧ (a.2 + 1) < (List.length p0 : Int)) (
               some (.next (min p1.To ((ix p0 (a.2 + 1)).From)))))
            else
             some (.next p1.To))))
          fun (b : Int) =>
           ck (I64 (b - (max p1.From ((ix p0 a.2).From)))) (
            (if 0 < (b - (max p1.From ((ix p0 a.2).From))) then
             Option.bind (m_tariff_priced_1 N a.2 (b - (max p1.From ((ix p0 a.2).From))) ((ix p0 a.2).Base) g) fun d => ck ((List.length a.1 + List.length ([d])) * 40 ≤ 140737488355328) (
              some (.next (a.1 ++ ([d]))))
            else
             some (.next a.1))))))
        fun (e : (List ApiItem)) =>
         ck (I64 (a.2 + 1)) (
          some (.next (e, (a.2 + 1)))))
       else
        some (.done (.next a.1)))) N (([] : List ApiItem), (0 : Int)))
     fun (f : (List ApiItem)) =>
      some ((f, (0 : Int))))))))
set_option maxHeartbeats 2000000 in
set_option maxRecDepth 20000 in
theorem m_tariff_Base_ok (N : Nat) (w0 : World) (p0 : (List ApiTariff)) (p1 : ApiWindow) (f : Ad) (g i : Nat) (j : RdE w0 5 encApiTariff f p0) (l : SW f g i (List.length p0)) (r : (List ApiItem) × Int) (hr : m_tariff_Base N p0 p1 = some r) :
  Ret Tryz.prog 23 [S f g i, .agg #[I p1.From, I p1.To]] w0 (fun (r : (List ApiItem) × Int) (u : Hdr) => .tuple #[S u.1 u.2.1 u.2.2, I r.2]) (fun (r : (List ApiItem) × Int) (u : Hdr) => [ownE 100 5 encApiItem u.1 u.2.1 u.2.2 r.1]) r := by
 refine calls_v (n := 90) r hr Tryz.func23 ?_
 unfold m_tariff_Base
 refine sr <| bx 3 [I _, I _] rfl fun b5 => la 2 ((5, I _) :: (4, S _ _ _) :: _) rfl <| nn <| cm_seq <| sr <| la 1 ((13, S _ _ _) :: _) rfl <| lc 14 (fun r1 hr1 w1 c1 => m_tariff_Check_ok N w1 p0 f g i (j.old c1) l r1 hr1) fun r6 u7 => la 1 ((6, I _) :: _) rfl <| nn <| sr <| la 2 ((16, B _) :: (15, I _) :: _) rfl <| nn <| cc rfl (fun h8 => ?_) (fun h8 => ?_)
 ·exact sr <| la 3 ((5, I _) :: (4, S _ _ _) :: (17, I _) :: _) rfl <| nn <| cm_ret <| xm_thenR <| xm_nilrow 100 5 encApiItem <| xrr [0] (none, 0, 0)
 ·refine sk <| cm_seq <| cm_seq <| cm_cutE [(32, B (((decide (p1.From < 0)) || (decide (p1.To < p1.From))) || (decide (36525 < p1.To))))] ?_ ?_
  ·refine qf 18 0 0 rfl <| qc 19 0 rfl rfl rfl <| qd 20 (fun _ _ => op_lss rfl rfl) (fun h9 => ?_) (fun h9 => ?_)
   ·exact qa 12 ((32, B true) :: uz 31 3 ((28, B true) :: (27, B true) :: uz 26 5 ((21, B true) :: _))) rfl <| lb 15 rfl (by rw [dt h9] <;> rfl)
   ·refine qa 1 ((21, B false) :: _) rfl <| qf 22 0 0 rfl <| qc 23 0 rfl rfl rfl <| qf 24 1 1 rfl <| qc 25 0 rfl rfl rfl <| qd 26 (fun _ _ => op_gtr rfl rfl) (fun G => ?_) (fun G => ?_)
    ·exact qa 6 ((32, B true) :: uz 31 3 ((28, B true) :: (27, B true) :: _)) rfl <| lb 15 rfl (by rw [df h9, dt G] <;> rfl)
    ·exact qa 2 ((28, B false) :: (27, B false) :: _) rfl <| qf 29 1 1 rfl <| qc 30 0 rfl rfl rfl <| qa 2 ((32, B _) :: (31, B _) :: _) rfl <| lb 15 rfl (by rw [df h9, df G] <;> rfl)
  refine xm_next <| cB rfl (fun a6 => ?_) (fun a6 => ?_)
  ·exact sr <| la 2 ((5, I _) :: (4, S _ _ _) :: _) rfl <| nn <| cm_ret <| xm_thenR <| xm_nilrow 100 5 encApiItem <| xrr [0] (none, 0, 0)
  ·refine sk <| cm_seq <| cm_seq <| cm_ck (fun t => ?_)
   refine cm_drawn [(46, B ((decide (p1.From < p1.To)) && (decide (p1.From < (ix p0 0).From))))] (by kernel_rfl) (by kernel_rfl) ?_ ?_
   ·refine qf 33 0 0 rfl <| qc 34 0 rfl rfl rfl <| qf 35 1 1 rfl <| qc 36 0 rfl rfl rfl <| qd 37 (fun _ _ => op_lss rfl rfl) (fun m => ?_) (fun m => ?_)
    ·exact qa 1 ((38, B true) :: _) rfl <| qf 39 0 0 rfl <| qc 40 0 rfl rfl rfl <| qa 1 ((41, S _ _ _) :: _) rfl <| q_ 42 (fun _ c1 => oI 5 rfl rfl ((j.old c1).addr (t (by rw [dt m] <;> rfl)).1 (t (by rw [dt m] <;> rfl)).2) l.2.2 (t (by rw [dt m] <;> rfl))) <| qF 43 rfl <| q_ 44 (fun _ c1 => oL (v := I ((ix p0 0).From)) ((j.old c1).cell0 (t (by rw [dt m] <;> rfl)).1 (t (by rw [dt m] <;> rfl)).2 rfl)) <| qa 2 ((46, B _) :: (45, B _) :: _) rfl <| lb 14 rfl (by rw [dt m] <;> rfl)
    ·exact qa 9 ((46, B false) :: uz 45 7 ((38, B false) :: _)) rfl <| lb 14 rfl (by rw [df m] <;> rfl)
   refine xm_next <| cB rfl (fun a7 => ?_) (fun a7 => ?_)
   ·exact sr <| la 2 ((5, I _) :: (4, S _ _ _) :: _) rfl <| nn <| cm_ret <| xm_thenR <| xm_nilrow 100 5 encApiItem <| xrr [0] (none, 0, 0)
   ·refine sk <| sr <| lm_callH 47 (V := (fun (_r : Int) (u : Nat) => (.func (.func 115) #[] #[.pointer (some ⟨u, 0, none⟩)] : Value))) [] [blkE b5 49 [I p1.From, I p1.To]] (O := (fun (r : Int) (u : Nat) => [blkE u 3 [I r]])) (sh [0]) (by kernel_rfl) (fun w1 => op_call (by kernel_rfl)) (fun r1 hr1 w1 c1 => m_tariff_priced_ok N w0 w1 [blkE b5 49 [I p1.From, I p1.To]] (1 : Int)  c1 r1 hr1) fun C o => la 1 ((7, .func _ _ _) :: _) rfl <| nn <| sr <| la 1 ((8, S _ _ _) :: _) rfl <| nn <| cm_join (σ := (List ApiItem)) (ξ := Hdr) (fun x d => [(8, S d.1 d.2.1 d.2.2)]) (fun x d => [ownE 100 5 encApiItem d.1 d.2.1 d.2.2 x]) ?_ ?_
    ·refine sr <| la 1 ((48, S _ _ _) :: _) rfl <| vn 49 l rfl <| la 1 ((50, I _) :: _) rfl <| nn <| cm_block <| cm_nilrow 100 5 encApiItem <| cm_loop (σ := (List ApiItem) × Int) (ξ := Hdr) (fun b a => [(0, S f g i), (3, .pointer (some ⟨b5, 0, none⟩)), (7, .func (.func 115) #[] #[.pointer (some ⟨o, 0, none⟩)]), (8, S a.1 a.2.1 a.2.2), (48, S f g i), (49, I (List.length p0 : Int)), (50, I b.2)]) (fun b a => [blkE b5 49 [I p1.From, I p1.To], blkE o 3 [I C], ownE 100 5 encApiItem a.1 a.2.1 a.2.2 b.1]) (none, 0, 0) ?_ ?_ ?_
     ·exact sq
     ·exact sh [2, 1, 0]
     intro b a
     refine sr <| la 1 ((51, B _) :: _) rfl <| nn <| cm_seq <| cc rfl (fun Q => ?_) (fun Q => ?_)
     ·refine sk <| cm_join (σ := (List ApiItem)) (ξ := Hdr) (fun y e => [(0, S f g i), (3, .pointer (some ⟨b5, 0, none⟩)), (7, .func (.func 115) #[] #[.pointer (some ⟨o, 0, none⟩)]), (8, S e.1 e.2.1 e.2.2), (48, S f g i), (49, I (List.length p0 : Int)), (50, I b.2)]) (fun y e => [blkE b5 49 [I p1.From, I p1.To], blkE o 3 [I C], ownE 100 5 encApiItem e.1 e.2.1 e.2.2 y]) ?_ ?_
      ·refine cm_block <| sr <| la 1 ((52, I _) :: _) rfl <| lm_ck (fun J => ?_)
       refine vi 53 5 j l J rfl rfl <| vr 54 j J rfl <| al 10 [I 0, I 0, I 0, I 0, I 0] (v := .agg #[I 0, I 0, I 0, I 0, I 0]) rfl fun K => la 1 ((9, I _) :: _) rfl <| sA 0 [I _, I _, I _, I _, I _] [_, _, _, _, _] (H' := [blkE _ _ [_, _, _, _, _], _, _, _]) rfl rfl rfl rfl rfl rfl <| nn <| sr <| vf 55 1 1 rfl <| vc 56 1 rfl rfl rfl <| la 1 ((11, I _) :: _) rfl <| nn <| cm_join (σ := Int) (ξ := Unit) (fun q L => [(0, S f g i), (3, .pointer (some ⟨b5, 0, none⟩)), (7, .func (.func 115) #[] #[.pointer (some ⟨o, 0, none⟩)]), (8, S a.1 a.2.1 a.2.2), (9, I b.2), (10, .pointer (some ⟨K, 0, none⟩)), (11, I q), (48, S f g i), (49, I (List.length p0 : Int)), (50, I b.2)]) (fun q L => [blkE b5 49 [I p1.From, I p1.To], blkE o 3 [I C], ownE 100 5 encApiItem a.1 a.2.1 a.2.2 b.1, blkE K 108 [I ((ix p0 b.2).From), I ((ix p0 b.2).Base), I ((ix p0 b.2).Empty), I ((ix p0 b.2).Kilo), I ((ix p0 b.2).Free)]]) ?_ ?_
       ·refine sr <| la 1 ((57, I _) :: _) rfl <| lm_ck (fun U => ?_)
        refine va 58 U rfl rfl <| la 1 ((59, S _ _ _) :: _) rfl <| vn 60 l rfl <| la 1 ((61, B _) :: _) rfl <| nn <| cc rfl (fun X => ?_) (fun X => ?_)
        ·refine cm_region <| la 3 ((64, I _) :: (63, S _ _ _) :: (62, I _) :: _) rfl <| lm_ck (fun Y => ?_)
         refine va 65 Y rfl rfl <| lm_ck (fun z => ?_)
         exact vi 66 5 j l z rfl rfl <| vF 67 rfl <| v_ 68 (fun _ c1 => oL (v := I ((ix p0 (b.2 + 1)).From)) ((j.old c1).cell0 z.1 z.2 rfl)) <| v_ 69 (fun _ _ => op_min rfl rfl) <| la 1 ((11, I _) :: _) rfl <| lm_nil <| xn () [1, 2, 3, 0]
        ·exact cm_skip <| xn () [1, 2, 3, 0]
       intro q L
       refine sr <| la 1 ((70, I _) :: _) rfl <| vf 71 0 0 rfl <| vc 72 0 rfl rfl rfl <| vf 73 0 0 rfl <| vc 74 3 rfl rfl rfl <| v_ 75 (fun _ _ => op_max rfl rfl) <| lm_ck (fun Z => ?_)
       refine v_ 76 (fun _ _ => op_sub rfl rfl Z) <| la 1 ((12, I _) :: _) rfl <| nn <| sr <| la 2 ((78, B _) :: (77, I _) :: _) rfl <| nn <| cc rfl (fun a0 => ?_) (fun a0 => ?_)
       ·refine cm_region <| la 4 ((82, I _) :: (81, I _) :: (80, .func _ _ _) :: (79, S _ _ _) :: _) rfl <| vf 83 1 1 rfl <| vc 84 3 rfl rfl rfl <| lm_call 85 (V := (fun (r : ApiItem) (_u : Unit) => .agg #[I r.Kind, I r.Ref, I r.Count, I r.Price, I r.Amount])) (HR := H0) (by kernel_rfl) (fun w1 => op_callv rfl (by kernel_rfl)) (fun r1 hr1 w1 c1 => m_tariff_priced_1_ok N w1 b.2 (q - (max p1.From ((ix p0 b.2).From))) ((ix p0 b.2).Base) C o (c1.blk 1 rfl) r1 hr1) fun M a8 => lm_slice1 86 (el := 100) (sz := 5) (bytes := 40) (enc := encApiItem) M (by kernel_rfl) (by kernel_rfl) encApiItem_len rfl (by kernel_rfl) fun a9 aa ab ac => lm_ck (fun a1 => ?_)
        exact ap 87 3 (el := 100) (sz := 5) (bytes := 40) (enc := encApiItem) (l2 := ([M])) encApiItem_len encApiItem_one rfl rfl rfl (fun w1 c1 => (c1.ownZ 0 rfl)) (fun w1 c1 => (c1.own 0 rfl encApiItem_len)) a1 fun a2 a3 a4 => la 1 ((8, S _ _ _) :: _) rfl <| lm_nil <| xm_inN <| xn (a2, a3, a4) [1, 2, 3]
       ·exact cm_skip <| xm_inN <| xn (a.1, a.2.1, a.2.2) [0, 1, 2]
      intro y e
      refine cm_region <| lm_ck (fun a5 => ?_)
      exact va 88 a5 rfl rfl <| la 1 ((50, I _) :: _) rfl <| lm_nil <| xn (e.1, e.2.1, e.2.2) [0, 1, 2]
     ·exact cm_exit <| xm_thenE <| xm_lexit <| xm_here <| xn (a.1, a.2.1, a.2.2) [2]
    intro x d
    exact sr <| la 3 ((5, I _) :: (4, S _ _ _) :: (89, S _ _ _) :: _) rfl <| nn <| cm_ret <| xrr [0] (d.1, d.2.1, d.2.2)
end Go.Proofs.YtbnimhmoffchdaaGreatDoor
