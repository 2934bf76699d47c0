/- Models of functions, and that the code follows them. Written by deco.py. -/
import Derived.Test.YtbnimhmoffchdaaGreatDoorZP2
namespace Go.Proofs.YtbnimhmoffchdaaGreatDoor
open Go.RowKit
set_option linter.unusedSectionVars false
variable [JF]

/-- tariff.between -/
def m_tariff_between (_N : Nat) (p0 : Int) (p1 : Int) (p2 : Int) : Option (Bool) :=
 some (((decide (p0 ≤ p1)) && (decide (p1 ≤ p2))))
set_option maxRecDepth 20000 in
theorem m_tariff_between_ok (N : Nat) (w0 : World) (p0 : Int) (p1 : Int) (p2 : Int)   (r : Bool) (hr : m_tariff_between N p0 p1 p2 = some r) :
  Ret Tryz.prog 113 [.int .i64 p0, .int .i64 p1, .int .i64 p2] w0 (fun (r : Bool) (_u : Unit) => .bool r) (fun (_r : Bool) (_u : Unit) => []) r := by
 refine calls_v (n := 15) r hr Tryz.func113 ?_
 unfold m_tariff_between
 refine sr <| la 1 ((6, .bool false) :: _) rfl <| nn <| cm_seq <| cm_cutE [(6, .bool ((decide (p0 ≤ p1)) && (decide (p1 ≤ p2))))] ?_ ?_
 ·refine qa 2 ((8, .int .i64 _) :: (7, .int .i64 _) :: _) rfl <| qd 9 (fun _ _ => op_leq rfl rfl) (fun h5 => ?_) (fun h5 => ?_)
  ·refine qa 6 ((6, .bool _) :: (14, .bool _) :: (13, .bool _) :: (12, .int .i64 _) :: (11, .int .i64 _) :: (10, .bool true) :: _) rfl ?_
   exact leaf_q (sub_out 9 _ rfl (by kernel_rfl) ⟨(congrArg Value.bool (by rw [decide_eq_true h5] <;> rfl)), trivial⟩)
  ·refine qa 6 ((6, .bool false) :: (14, .bool false) :: (13, undef) :: (12, undef) :: (11, undef) :: (10, .bool false) :: _) rfl ?_
   exact leaf_q (sub_out 9 _ rfl (by kernel_rfl) ⟨(congrArg Value.bool (by rw [decide_eq_false h5] <;> rfl)), trivial⟩)
 refine xm_next <| cm_ret ?_
 exact xm_retT rfl (by kernel_rfl) (show _ = Value.bool _ from rfl) fun w1 c1 => ⟨(), rfl, hsub [] (by kernel_rfl) rfl w1 c1⟩
/-- tariff.usable -/
def m_tariff_usable (N : Nat) (p0 : ApiTariff) : Option (Bool) :=
 Option.bind (m_tariff_between N (0 : Int) p0.Base (100000 : Int)) fun r6 => callIf (r6 = true) (m_tariff_between N (0 : Int) p0.Empty (100000 : Int)) fun r8 => callIf ((r6 && r8) = true) (m_tariff_between N (0 : Int) p0.Kilo (100000 : Int)) fun a => callIf (((r6 && r8) && a) = true) (m_tariff_between N (0 : Int) p0.Free (1000 : Int)) fun b => some ((((r6 && r8) && a) && b))
set_option maxRecDepth 20000 in
theorem m_tariff_usable_ok (N : Nat) (w0 : World) (p0 : ApiTariff)   (r : Bool) (hr : m_tariff_usable N p0 = some r) :
  Ret Tryz.prog 114 [.agg #[.int .i64 p0.From, .int .i64 p0.Base, .int .i64 p0.Empty, .int .i64 p0.Kilo, .int .i64 p0.Free]] w0 (fun (r : Bool) (_u : Unit) => .bool r) (fun (_r : Bool) (_u : Unit) => []) r := by
 refine calls_v (n := 21) r hr Tryz.func114 ?_
 unfold m_tariff_usable
 refine sr <| lm_box 1 [.int .i64 _, .int .i64 _, .int .i64 _, .int .i64 _, .int .i64 _] (by kernel_rfl) rfl ?_
 intro b5
 refine la 1 ((2, .bool false) :: _) rfl <| nn <| cm_seq <| cm_bind fun r6 h7 => cm_callIf fun r8 h9 => cm_callIf fun e g => cm_callIf fun f i => cm_cutE [(2, .bool (((r6 && r8) && e) && f))] ?_ ?_
 ·refine q_ 3 (fun _ _ => oF 1 1 rfl) <| q_ 4 (fun _ c1 => oL (c1.cell 0 (u := .int .i64 _) rfl rfl)) <| wq_callb 5 (by kernel_rfl) (fun w1 c1 => op_call (by kernel_rfl)) (fun w1 c1 => (m_tariff_between_ok N w1 (0 : Int) p0.Base (100000 : Int)  r6 h7).mono (fun _ _ ⟨_, hx, hu⟩ => ⟨hx, c1.call hu⟩)) (fun a => ?_) (fun a => ?_)
  ·refine qa 1 ((6, .bool true) :: _) rfl <| q_ 7 (fun _ _ => oF 2 2 rfl) <| q_ 8 (fun _ c1 => oL (c1.cell 0 (u := .int .i64 _) rfl rfl)) <| wq_callb 9 (by kernel_rfl) (fun w1 c1 => op_call (by kernel_rfl)) (fun w1 c1 => (m_tariff_between_ok N w1 (0 : Int) p0.Empty (100000 : Int)  r8 (h9 (by rw [a] <;> rfl))).mono (fun _ _ ⟨_, hx, hu⟩ => ⟨hx, c1.call hu⟩)) (fun b => ?_) (fun b => ?_)
   ·refine qa 2 ((11, .bool true) :: (10, .bool true) :: _) rfl <| q_ 12 (fun _ _ => oF 3 3 rfl) <| q_ 13 (fun _ c1 => oL (c1.cell 0 (u := .int .i64 _) rfl rfl)) <| wq_callb 14 (by kernel_rfl) (fun w1 c1 => op_call (by kernel_rfl)) (fun w1 c1 => (m_tariff_between_ok N w1 (0 : Int) p0.Kilo (100000 : Int)  e (g (by rw [a, b] <;> rfl))).mono (fun _ _ ⟨_, hx, hu⟩ => ⟨hx, c1.call hu⟩)) (fun d => ?_) (fun d => ?_)
    ·refine qa 2 ((16, .bool true) :: (15, .bool true) :: _) rfl <| q_ 17 (fun _ _ => oF 4 4 rfl) <| q_ 18 (fun _ c1 => oL (c1.cell 0 (u := .int .i64 _) rfl rfl)) <| wq_call 19 (by kernel_rfl) (fun w1 c1 => op_call (by kernel_rfl)) (fun w1 c1 => (m_tariff_between_ok N w1 (0 : Int) p0.Free (1000 : Int)  f (i (by rw [a, b, d] <;> rfl))).mono (fun _ _ ⟨_, hx, hu⟩ => ⟨hx, c1.call hu⟩)) <| qa 2 ((2, .bool _) :: (20, .bool _) :: _) rfl ?_
     exact leaf_q (sub_out 19 _ rfl (by kernel_rfl) ⟨(congrArg Value.bool (by rw [a, b, d] <;> rfl)), trivial⟩)
    ·refine qa 7 ((2, .bool false) :: (20, .bool false) :: (19, undef) :: (18, undef) :: (17, undef) :: (16, .bool false) :: (15, .bool false) :: _) rfl ?_
     exact leaf_q (sub_out 19 _ rfl (by kernel_rfl) ⟨(congrArg Value.bool (by rw [a, b, d] <;> rfl)), trivial⟩)
   ·refine qa 12 ((2, .bool false) :: (20, .bool false) :: (19, undef) :: (18, undef) :: (17, undef) :: (16, .bool false) :: (15, .bool false) :: (14, undef) :: (13, undef) :: (12, undef) :: (11, .bool false) :: (10, .bool false) :: _) rfl ?_
    exact leaf_q (sub_out 19 _ rfl (by kernel_rfl) ⟨(congrArg Value.bool (by rw [a, b] <;> rfl)), trivial⟩)
  ·refine qa 16 ((2, .bool false) :: (20, .bool false) :: (19, undef) :: (18, undef) :: (17, undef) :: (16, .bool false) :: (15, .bool false) :: (14, undef) :: (13, undef) :: (12, undef) :: (11, .bool false) :: (10, .bool false) :: (9, undef) :: (8, undef) :: (7, undef) :: (6, .bool false) :: _) rfl ?_
   exact leaf_q (sub_out 19 _ rfl (by kernel_rfl) ⟨(congrArg Value.bool (by rw [a] <;> rfl)), trivial⟩)
 refine xm_next <| cm_ret ?_
 exact xm_retT rfl (by kernel_rfl) (show _ = Value.bool _ from rfl) fun w1 c1 => ⟨(), rfl, hsub [] (by kernel_rfl) rfl w1 c1⟩
/-- tariff.Check -/
def m_tariff_Check (N : Nat) (p0 : (List ApiTariff)) : Option (Int) :=
 (if (List.length p0 : Int) = 0 then
  some ((10 : Int))
 else
  (if 8 < (List.length p0 : Int) then
   some ((8 : Int))
  else
   (andThen
    (loopM (fun (b : Int) =>
     (if b < (List.length p0 : Int) then
      ck ((0 : Int) ≤ b ∧ b < (List.length p0 : Int)) (
       Option.bind (m_tariff_between N (0 : Int) ((ix p0 b).From) (36524 : Int)) fun d => callIf ((!(!d)) = true) (m_tariff_usable N (ix p0 b)) fun e => (if ((!d) || (!e)) = true then
        some (.done (.done ((1 : Int))))
       else
        ck (I64 (b + (1 : Int))) (
         some (.next (b + (1 : Int))))))
     else
      some (.done (.next ())))) N (0 : Int))
   fun (_s43 : Unit) =>
    (andThen
     (loopM (fun (a : Int) =>
      (if a < (List.length p0 : Int) then
       ck ((0 : Int) ≤ a ∧ a < (List.length p0 : Int)) (
        ck (I64 (a - (1 : Int))) (
         ck ((0 : Int) ≤ (a - (1 : Int)) ∧ (a - (1 : Int)) < (List.length p0 : Int)) (
          (if (ix p0 a).From ≤ (ix p0 (a - (1 : Int))).From then
           some (.done (.done ((9 : Int))))
          else
           ck (I64 (a + (1 : Int))) (
            some (.next (a + (1 : Int))))))))
      else
       some (.done (.next ())))) N (1 : Int))
    fun (_s105 : Unit) =>
     some ((0 : Int))))))
set_option maxHeartbeats 2000000 in
set_option maxRecDepth 20000 in
theorem m_tariff_Check_ok (N : Nat) (w0 : World) (p0 : (List ApiTariff)) (e : Option Addr) (g : Nat) (i : Nat) (b : RdE w0 5 encApiTariff e p0) (a : SW e g i (List.length p0)) (r : Int) (hr : m_tariff_Check N p0 = some r) :
  Ret Tryz.prog 57 [.slice e g i] w0 (fun (r : Int) (_u : Unit) => .int .i64 r) (fun (_r : Int) (_u : Unit) => []) r := by
 refine calls_v (n := 46) r hr Tryz.func57 ?_
 unfold m_tariff_Check
 refine sr <| la 1 ((2, .int .i64 _) :: _) rfl <| nn <| cm_seq <| sr <| la 1 ((6, .slice _ _ _) :: _) rfl <| v_ 7 (fun _ _ => op_lenN rfl (by kernel_rfl) a.2.2) <| la 1 ((8, .bool _) :: _) rfl <| nn <| cm_cond (by kernel_rfl) rfl (fun h5 => ?_) (fun h5 => ?_)
 ·refine sr <| la 1 ((2, .int .i64 _) :: _) rfl <| nn <| cm_ret <| xm_thenR ?_
  exact xm_retT rfl (by kernel_rfl) (show _ = Value.int .i64 _ from rfl) fun w1 c1 => ⟨(), rfl, hsub [] (by kernel_rfl) rfl w1 c1⟩
 ·refine sk <| cm_seq <| sr <| la 1 ((9, .slice _ _ _) :: _) rfl <| v_ 10 (fun _ _ => op_lenN rfl (by kernel_rfl) a.2.2) <| la 1 ((11, .bool _) :: _) rfl <| nn <| cm_cond (by kernel_rfl) rfl (fun h6 => ?_) (fun h6 => ?_)
  ·refine sr <| la 1 ((2, .int .i64 _) :: _) rfl <| nn <| cm_ret <| xm_thenR ?_
   exact xm_retT rfl (by kernel_rfl) (show _ = Value.int .i64 _ from rfl) fun w1 c1 => ⟨(), rfl, hsub [] (by kernel_rfl) rfl w1 c1⟩
  ·refine sk <| cm_join (σ := Unit) (ξ := Unit) (fun y z => [(0, .slice e g i)]) (fun y z => []) ?_ ?_
   ·refine sr <| la 1 ((12, .slice _ _ _) :: _) rfl <| v_ 13 (fun _ _ => op_lenN rfl (by kernel_rfl) a.2.2) <| la 1 ((14, .int .i64 _) :: _) rfl <| nn <| cm_block <| cm_loop (σ := Int) (ξ := Unit) (fun d B => [(0, .slice e g i), (12, .slice e g i), (13, .int .i64 (List.length p0 : Int)), (14, .int .i64 d)]) (fun d B => []) () ?_ ?_ ?_
    ·exact sq
    ·exact sh []
    intro d B
    refine sr <| la 1 ((15, .bool _) :: _) rfl <| nn <| cm_seq <| cm_cond (by kernel_rfl) rfl (fun O => ?_) (fun O => ?_)
    ·refine sk <| cm_seq <| cm_block <| sr <| lm_ck (fun m => ?_)
     refine v_ 16 (fun _ c1 => oI 5 rfl rfl ((b.old c1).addr m.1 m.2) a.2.2 m) <| v_ 17 (fun _ c1 => oR [.int .i64 ((ix p0 d).From), .int .i64 ((ix p0 d).Base), .int .i64 ((ix p0 d).Empty), .int .i64 ((ix p0 d).Kilo), .int .i64 ((ix p0 d).Free)] ((b.old c1).row m.1 m.2)) <| lm_alloc 4 [.int .i64 0, .int .i64 0, .int .i64 0, .int .i64 0, .int .i64 0] (v := .agg #[.int .i64 0, .int .i64 0, .int .i64 0, .int .i64 0, .int .i64 0]) (by kernel_rfl) (by kernel_rfl) rfl ?_
     intro Y
     refine lm_storeA 0 [.int .i64 _, .int .i64 _, .int .i64 _, .int .i64 _, .int .i64 _] [_, _, _, _, _] (H' := [blkE _ _ [_, _, _, _, _]]) (by kernel_rfl) rfl rfl (by kernel_rfl) rfl rfl (by kernel_rfl) rfl rfl <| nn <| cm_seq <| cm_bind fun C Q => cm_callIf fun G U => cm_cutE [(26, .bool ((!C) || (!G)))] ?_ ?_
     ·refine q_ 18 (fun _ _ => oF 0 0 rfl) <| q_ 19 (fun _ c1 => oL (c1.cell 0 (u := .int .i64 _) rfl rfl)) <| wq_callb 20 (by kernel_rfl) (fun w1 c1 => op_call (by kernel_rfl)) (fun w1 c1 => (m_tariff_between_ok N w1 (0 : Int) ((ix p0 d).From) (36524 : Int)  C Q).mono (fun _ _ ⟨_, hx, hu⟩ => ⟨hx, c1.call hu⟩)) (fun o => ?_) (fun o => ?_)
      ·refine qa 2 ((22, .bool false) :: (21, .bool false) :: _) rfl <| q_ 23 (fun _ c1 => oR [.int .i64 _, .int .i64 _, .int .i64 _, .int .i64 _, .int .i64 _] (c1.cells 0 rfl rfl)) <| wq_call 24 (by kernel_rfl) (fun w1 c1 => op_call (by kernel_rfl)) (fun w1 c1 => (m_tariff_usable_ok N w1 (ix p0 d)  G (U (by rw [o] <;> rfl))).mono (fun _ _ ⟨_, hx, hu⟩ => ⟨hx, c1.call hu⟩)) <| qa 2 ((26, .bool _) :: (25, .bool _) :: _) rfl ?_
       exact leaf_q (sub_out 9 _ rfl (by kernel_rfl) ⟨(congrArg Value.bool (by rw [o] <;> rfl)), trivial⟩)
      ·refine qa 6 ((26, .bool true) :: (25, undef) :: (24, undef) :: (23, undef) :: (22, .bool true) :: (21, .bool true) :: _) rfl ?_
       exact leaf_q (sub_out 9 _ rfl (by kernel_rfl) ⟨(congrArg Value.bool (by rw [o] <;> rfl)), trivial⟩)
     refine xm_next <| cm_condB (by kernel_rfl) rfl (fun V => ?_) (fun V => ?_)
     ·refine sr <| la 1 ((2, .int .i64 _) :: _) rfl <| nn <| cm_ret <| xm_inR <| xm_thenR <| xm_lret <| xm_inR <| xm_lret ?_
      exact xm_retT rfl (by kernel_rfl) (show _ = Value.int .i64 _ from rfl) fun w1 c1 => ⟨(), rfl, hsub [] (by kernel_rfl) rfl w1 c1⟩
     ·refine cm_skip <| xm_inN <| xm_next <| cm_region <| lm_ck (fun X => ?_)
      refine v_ 27 (fun _ _ => op_add rfl rfl X) <| la 1 ((14, .int .i64 _) :: _) rfl <| lm_nil ?_
      exact xm_lnext () sq (sh [])
    ·refine cm_exit <| xm_thenE <| xm_lexit <| xm_here ?_
     exact xm_lnext () sq (sh [])
   intro y z
   refine cm_join (σ := Unit) (ξ := Unit) (fun q t => []) (fun q t => []) ?_ ?_
   ·refine sr <| la 1 ((5, .int .i64 _) :: _) rfl <| nn <| cm_block <| cm_loop (σ := Int) (ξ := Unit) (fun f x => [(0, .slice e g i), (5, .int .i64 f)]) (fun f x => []) () ?_ ?_ ?_
    ·exact sq
    ·exact sh []
    intro f x
    refine cm_seq <| sr <| la 2 ((29, .slice _ _ _) :: (28, .int .i64 _) :: _) rfl <| v_ 30 (fun _ _ => op_lenN rfl (by kernel_rfl) a.2.2) <| la 1 ((31, .bool _) :: _) rfl <| nn <| cm_cond (by kernel_rfl) rfl (fun J => ?_) (fun J => ?_)
    ·refine sk <| cm_seq <| cm_block <| cm_seq <| cm_ck (fun j => ?_)
     refine cm_ck (fun K => ?_)
     refine cm_ck (fun l => ?_)
     refine cm_drawn [(45, .bool (decide ((ix p0 f).From ≤ (ix p0 (f - (1 : Int))).From)))] (by kernel_rfl) (by kernel_rfl) ?_ ?_
     ·refine qa 2 ((35, .int .i64 _) :: (34, .slice _ _ _) :: _) rfl <| q_ 36 (fun _ c1 => oI 5 rfl rfl ((b.old c1).addr j.1 j.2) a.2.2 j) <| q_ 37 (fun _ _ => op_field0 rfl (by kernel_rfl)) <| q_ 38 (fun _ c1 => oL (v := .int .i64 ((ix p0 f).From)) ((b.old c1).cell0 j.1 j.2 rfl)) <| qa 2 ((40, .int .i64 _) :: (39, .slice _ _ _) :: _) rfl <| q_ 41 (fun _ _ => op_sub rfl rfl K) <| q_ 42 (fun _ c1 => oI 5 rfl rfl ((b.old c1).addr l.1 l.2) a.2.2 l) <| q_ 43 (fun _ _ => op_field0 rfl (by kernel_rfl)) <| q_ 44 (fun _ c1 => oL (v := .int .i64 ((ix p0 (f - (1 : Int))).From)) ((b.old c1).cell0 l.1 l.2 rfl)) <| qa 1 ((45, .bool _) :: _) rfl ?_
      exact lq 12
     refine xm_next <| cm_cond (by kernel_rfl) rfl (fun L => ?_) (fun L => ?_)
     ·refine sr <| la 1 ((2, .int .i64 _) :: _) rfl <| nn <| cm_ret <| xm_inR <| xm_thenR <| xm_lret <| xm_inR <| xm_lret ?_
      exact xm_retT rfl (by kernel_rfl) (show _ = Value.int .i64 _ from rfl) fun w1 c1 => ⟨(), rfl, hsub [] (by kernel_rfl) rfl w1 c1⟩
     ·refine cm_skip <| xm_inN <| xm_next <| cm_region <| la 1 ((32, .int .i64 _) :: _) rfl <| lm_ck (fun M => ?_)
      refine v_ 33 (fun _ _ => op_add rfl rfl M) <| la 1 ((5, .int .i64 _) :: _) rfl <| lm_nil ?_
      exact xm_lnext () sq (sh [])
    ·refine cm_exit <| xm_thenE <| xm_lexit <| xm_here ?_
     exact xm_lnext () sub_nil (sh [])
   intro q t
   refine sr <| la 1 ((2, .int .i64 _) :: _) rfl <| nn <| cm_ret ?_
   exact xm_retT rfl (by kernel_rfl) (show _ = Value.int .i64 _ from rfl) fun w1 c1 => ⟨(), rfl, hsub [] (by kernel_rfl) rfl w1 c1⟩
/-- tariff.At -/
def m_tariff_At (N : Nat) (p0 : (List ApiTariff)) (p1 : Int) : Option (Int × Int) :=
 Option.bind (m_tariff_Check N p0) fun r5 => (if r5 ≠ 0 then
  some (((0 : Int), r5))
 else
  Option.bind (m_tariff_between N (0 : Int) p1 (36524 : Int)) fun r8 => (if (!r8) = true then
   some (((0 : Int), (1 : Int)))
  else
   (andThen
    (ck (I64 ((List.length p0 : Int) - (1 : Int))) (
     (loopM (fun (a : Int) =>
      (if 0 ≤ a then
       ck ((0 : Int) ≤ a ∧ a < (List.length p0 : Int)) (
        (if (ix p0 a).From ≤ p1 then
         some (.done (.done ((a, (0 : Int)))))
        else
         ck (I64 (a - (1 : Int))) (
          some (.next (a - (1 : Int))))))
      else
       some (.done (.next ())))) N ((List.length p0 : Int) - (1 : Int)))))
   fun (_s30 : Unit) =>
    some (((0 : Int), (7 : Int))))))
set_option maxHeartbeats 2000000 in
set_option maxRecDepth 20000 in
theorem m_tariff_At_ok (N : Nat) (w0 : World) (p0 : (List ApiTariff)) (p1 : Int) (a : Option Addr) (b : Nat) (d : Nat) (e : RdE w0 5 encApiTariff a p0) (f : SW a b d (List.length p0)) (r : Int × Int) (hr : m_tariff_At N p0 p1 = some r) :
  Ret Tryz.prog 75 [.slice a b d, .int .i64 p1] w0 (fun (r : Int × Int) (_u : Unit) => .tuple #[.int .i64 r.1, .int .i64 r.2]) (fun (_r : Int × Int) (_u : Unit) => []) r := by
 refine calls_v (n := 31) r hr Tryz.func75 ?_
 unfold m_tariff_At
 refine sr <| la 2 ((5, .int .i64 _) :: (4, .int .i64 _) :: _) rfl <| nn <| cm_seq <| sr <| la 1 ((8, .slice _ _ _) :: _) rfl <| lm_call 9 (V := (fun (r : Int) (_u : Unit) => .int .i64 r)) (HR := (fun (_r : Int) (_u : Unit) => [])) (by kernel_rfl) (fun w1 => op_call (by kernel_rfl)) (fun r1 hr1 w1 c1 => m_tariff_Check_ok N w1 p0 a b d (e.old c1) f r1 hr1) ?_
 intro r5 u6
 refine la 1 ((6, .int .i64 _) :: _) rfl <| nn <| sr <| la 2 ((11, .bool _) :: (10, .int .i64 _) :: _) rfl <| nn <| cm_cond (by kernel_rfl) rfl (fun h7 => ?_) (fun h7 => ?_)
 ·refine sr <| la 3 ((5, .int .i64 _) :: (4, .int .i64 _) :: (12, .int .i64 _) :: _) rfl <| nn <| cm_ret <| xm_thenR ?_
  exact xm_retTT rfl (by kernel_rfl) (show _ = Value.int .i64 _ from rfl) (by kernel_rfl) (show _ = Value.int .i64 _ from rfl) fun w1 c1 => ⟨(), rfl, hsub [] (by kernel_rfl) rfl w1 c1⟩
 ·refine sk <| cm_seq <| sr <| la 1 ((13, .int .i64 _) :: _) rfl <| lm_call 14 (V := (fun (r : Bool) (_u : Unit) => .bool r)) (HR := (fun (_r : Bool) (_u : Unit) => [])) (by kernel_rfl) (fun w1 => op_call (by kernel_rfl)) (fun r1 hr1 w1 c1 => m_tariff_between_ok N w1 (0 : Int) p1 (36524 : Int)  r1 hr1) ?_
  intro r8 u9
  refine la 1 ((15, .bool _) :: _) rfl <| nn <| cm_condB (by kernel_rfl) rfl (fun o => ?_) (fun o => ?_)
  ·refine sr <| la 2 ((5, .int .i64 _) :: (4, .int .i64 _) :: _) rfl <| nn <| cm_ret <| xm_thenR ?_
   exact xm_retTT rfl (by kernel_rfl) (show _ = Value.int .i64 _ from rfl) (by kernel_rfl) (show _ = Value.int .i64 _ from rfl) fun w1 c1 => ⟨(), rfl, hsub [] (by kernel_rfl) rfl w1 c1⟩
  ·refine sk <| cm_join (σ := Unit) (ξ := Unit) (fun j l => []) (fun j l => []) ?_ ?_
   ·refine sr <| la 1 ((16, .slice _ _ _) :: _) rfl <| v_ 17 (fun _ _ => op_lenN rfl (by kernel_rfl) f.2.2) <| lm_ck (fun q => ?_)
    refine v_ 18 (fun _ _ => op_sub rfl rfl q) <| la 1 ((7, .int .i64 _) :: _) rfl <| nn <| cm_block <| cm_loop (σ := Int) (ξ := Unit) (fun i m => [(0, .slice a b d), (1, .int .i64 p1), (7, .int .i64 i)]) (fun i m => []) () ?_ ?_ ?_
    ·exact sq
    ·exact sh []
    intro i m
    refine cm_seq <| sr <| la 2 ((20, .bool _) :: (19, .int .i64 _) :: _) rfl <| nn <| cm_cond (by kernel_rfl) rfl (fun t => ?_) (fun t => ?_)
    ·refine sk <| cm_seq <| cm_block <| sr <| la 2 ((24, .int .i64 _) :: (23, .slice _ _ _) :: _) rfl <| lm_ck (fun g => ?_)
     refine v_ 25 (fun _ c1 => oI 5 rfl rfl ((e.old c1).addr g.1 g.2) f.2.2 g) <| v_ 26 (fun _ _ => op_field0 rfl (by kernel_rfl)) <| v_ 27 (fun _ c1 => oL (v := .int .i64 ((ix p0 i).From)) ((e.old c1).cell0 g.1 g.2 rfl)) <| la 2 ((29, .bool _) :: (28, .int .i64 _) :: _) rfl <| nn <| cm_cond (by kernel_rfl) rfl (fun x => ?_) (fun x => ?_)
     ·refine sr <| la 3 ((5, .int .i64 _) :: (4, .int .i64 _) :: (30, .int .i64 _) :: _) rfl <| nn <| cm_ret <| xm_inR <| xm_thenR <| xm_lret <| xm_inR <| xm_lret ?_
      exact xm_retTT rfl (by kernel_rfl) (show _ = Value.int .i64 _ from rfl) (by kernel_rfl) (show _ = Value.int .i64 _ from rfl) fun w1 c1 => ⟨(), rfl, hsub [] (by kernel_rfl) rfl w1 c1⟩
     ·refine cm_skip <| xm_inN <| xm_next <| cm_region <| la 1 ((21, .int .i64 _) :: _) rfl <| lm_ck (fun y => ?_)
      refine v_ 22 (fun _ _ => op_sub rfl rfl y) <| la 1 ((7, .int .i64 _) :: _) rfl <| lm_nil ?_
      exact xm_lnext () sq (sh [])
    ·refine cm_exit <| xm_thenE <| xm_lexit <| xm_here ?_
     exact xm_lnext () sub_nil (sh [])
   intro j l
   refine sr <| la 2 ((5, .int .i64 _) :: (4, .int .i64 _) :: _) rfl <| nn <| cm_ret ?_
   exact xm_retTT rfl (by kernel_rfl) (show _ = Value.int .i64 _ from rfl) (by kernel_rfl) (show _ = Value.int .i64 _ from rfl) fun w1 c1 => ⟨(), rfl, hsub [] (by kernel_rfl) rfl w1 c1⟩
/-- tariff.weighed -/
def m_tariff_weighed (_N : Nat) (p0 : ApiSpan) : Option (Bool) :=
 some ((((decide (0 ≤ p0.Lo)) && (decide (p0.Lo ≤ p0.Hi))) && (decide (p0.Hi ≤ 1073741824))))
set_option maxRecDepth 20000 in
theorem m_tariff_weighed_ok (N : Nat) (w0 : World) (p0 : ApiSpan)   (r : Bool) (hr : m_tariff_weighed N p0 = some r) :
  Ret Tryz.prog 147 [.agg #[.int .i64 p0.Lo, .int .i64 p0.Hi]] w0 (fun (r : Bool) (_u : Unit) => .bool r) (fun (_r : Bool) (_u : Unit) => []) r := by
 refine calls_v (n := 18) r hr Tryz.func147 ?_
 unfold m_tariff_weighed
 refine sr <| lm_box 1 [.int .i64 _, .int .i64 _] (by kernel_rfl) rfl ?_
 intro b5
 refine la 1 ((2, .bool false) :: _) rfl <| nn <| cm_seq <| cm_cutE [(2, .bool (((decide (0 ≤ p0.Lo)) && (decide (p0.Lo ≤ p0.Hi))) && (decide (p0.Hi ≤ 1073741824))))] ?_ ?_
 ·refine q_ 3 (fun _ _ => oF 0 0 rfl) <| q_ 4 (fun _ c1 => oL (c1.cell 0 (u := .int .i64 _) rfl rfl)) <| qd 5 (fun _ _ => op_leq rfl rfl) (fun h6 => ?_) (fun h6 => ?_)
  ·refine qa 1 ((6, .bool true) :: _) rfl <| q_ 7 (fun _ _ => oF 0 0 rfl) <| q_ 8 (fun _ c1 => oL (c1.cell 0 (u := .int .i64 _) rfl rfl)) <| q_ 9 (fun _ _ => oF 1 1 rfl) <| q_ 10 (fun _ c1 => oL (c1.cell 0 (u := .int .i64 _) rfl rfl)) <| qd 11 (fun _ _ => op_leq rfl rfl) (fun h7 => ?_) (fun h7 => ?_)
   ·refine qa 2 ((13, .bool true) :: (12, .bool true) :: _) rfl <| q_ 14 (fun _ _ => oF 1 1 rfl) <| q_ 15 (fun _ c1 => oL (c1.cell 0 (u := .int .i64 _) rfl rfl)) <| qa 3 ((2, .bool _) :: (17, .bool _) :: (16, .bool _) :: _) rfl ?_
    exact leaf_q (sub_out 16 _ rfl (by kernel_rfl) ⟨(congrArg Value.bool (by rw [decide_eq_true h6, decide_eq_true h7] <;> rfl)), trivial⟩)
   ·refine qa 7 ((2, .bool false) :: (17, .bool false) :: (16, undef) :: (15, undef) :: (14, undef) :: (13, .bool false) :: (12, .bool false) :: _) rfl ?_
    exact leaf_q (sub_out 16 _ rfl (by kernel_rfl) ⟨(congrArg Value.bool (by rw [decide_eq_true h6, decide_eq_false h7] <;> rfl)), trivial⟩)
  ·refine qa 13 ((2, .bool false) :: (17, .bool false) :: (16, undef) :: (15, undef) :: (14, undef) :: (13, .bool false) :: (12, .bool false) :: (11, undef) :: (10, undef) :: (9, undef) :: (8, undef) :: (7, undef) :: (6, .bool false) :: _) rfl ?_
   exact leaf_q (sub_out 16 _ rfl (by kernel_rfl) ⟨(congrArg Value.bool (by rw [decide_eq_false h6] <;> rfl)), trivial⟩)
 refine xm_next <| cm_ret ?_
 exact xm_retT rfl (by kernel_rfl) (show _ = Value.bool _ from rfl) fun w1 c1 => ⟨(), rfl, hsub [] (by kernel_rfl) rfl w1 c1⟩
/-- tariff.Weight -/
def m_tariff_Weight (N : Nat) (p0 : ApiTariff) (p1 : ApiSpan) : Option (Int × Int) :=
 Option.bind (m_tariff_usable N p0) fun r7 => callIf ((!(!r7)) = true) (m_tariff_weighed N p1) fun r9 => (if ((!r7) || (!r9)) = true then
  some (((0 : Int), (1 : Int)))
 else
  ck (I64 p1.Lo) (
   ck (I64 ((Int.tdiv p1.Lo 1000) - p0.Free)) (
    some (((max (0 : Int) ((Int.tdiv p1.Lo 1000) - p0.Free)), (0 : Int))))))
set_option maxRecDepth 20000 in
theorem m_tariff_Weight_ok (N : Nat) (w0 : World) (p0 : ApiTariff) (p1 : ApiSpan)   (r : Int × Int) (hr : m_tariff_Weight N p0 p1 = some r) :
  Ret Tryz.prog 127 [.agg #[.int .i64 p0.From, .int .i64 p0.Base, .int .i64 p0.Empty, .int .i64 p0.Kilo, .int .i64 p0.Free], .agg #[.int .i64 p1.Lo, .int .i64 p1.Hi]] w0 (fun (r : Int × Int) (_u : Unit) => .tuple #[.int .i64 r.1, .int .i64 r.2]) (fun (_r : Int × Int) (_u : Unit) => []) r := by
 refine calls_v (n := 21) r hr Tryz.func127 ?_
 unfold m_tariff_Weight
 refine sr <| lm_box 2 [.int .i64 _, .int .i64 _, .int .i64 _, .int .i64 _, .int .i64 _] (by kernel_rfl) rfl ?_
 intro b5
 refine lm_box 3 [.int .i64 _, .int .i64 _] (by kernel_rfl) rfl ?_
 intro b6
 refine la 2 ((5, .int .i64 _) :: (4, .int .i64 _) :: _) rfl <| nn <| cm_seq <| cm_seq <| cm_bind fun r7 h8 => cm_callIf fun r9 b => cm_cutE [(13, .bool ((!r7) || (!r9)))] ?_ ?_
 ·refine q_ 6 (fun _ c1 => oR [.int .i64 _, .int .i64 _, .int .i64 _, .int .i64 _, .int .i64 _] (c1.cells 1 rfl rfl)) <| wq_callb 7 (by kernel_rfl) (fun w1 c1 => op_call (by kernel_rfl)) (fun w1 c1 => (m_tariff_usable_ok N w1 p0  r7 h8).mono (fun _ _ ⟨_, hx, hu⟩ => ⟨hx, c1.call hu⟩)) (fun a => ?_) (fun a => ?_)
  ·refine qa 2 ((9, .bool false) :: (8, .bool false) :: _) rfl <| q_ 10 (fun _ c1 => oR [.int .i64 _, .int .i64 _] (c1.cells 0 rfl rfl)) <| wq_call 11 (by kernel_rfl) (fun w1 c1 => op_call (by kernel_rfl)) (fun w1 c1 => (m_tariff_weighed_ok N w1 p1  r9 (b (by rw [a] <;> rfl))).mono (fun _ _ ⟨_, hx, hu⟩ => ⟨hx, c1.call hu⟩)) <| qa 2 ((13, .bool _) :: (12, .bool _) :: _) rfl ?_
   exact leaf_q (sub_out 8 _ rfl (by kernel_rfl) ⟨(congrArg Value.bool (by rw [a] <;> rfl)), trivial⟩)
  ·refine qa 6 ((13, .bool true) :: (12, undef) :: (11, undef) :: (10, undef) :: (9, .bool true) :: (8, .bool true) :: _) rfl ?_
   exact leaf_q (sub_out 8 _ rfl (by kernel_rfl) ⟨(congrArg Value.bool (by rw [a] <;> rfl)), trivial⟩)
 refine xm_next <| cm_condB (by kernel_rfl) rfl (fun d => ?_) (fun d => ?_)
 ·refine sr <| la 2 ((5, .int .i64 _) :: (4, .int .i64 _) :: _) rfl <| nn <| cm_ret <| xm_thenR ?_
  exact xm_retTT rfl (by kernel_rfl) (show _ = Value.int .i64 _ from rfl) (by kernel_rfl) (show _ = Value.int .i64 _ from rfl) fun w1 c1 => ⟨(), rfl, hsub [] (by kernel_rfl) rfl w1 c1⟩
 ·refine sk <| sr <| v_ 14 (fun _ _ => oF 0 0 rfl) <| v_ 15 (fun _ c1 => oL (c1.cell 0 (u := .int .i64 _) rfl rfl)) <| lm_ck (fun e => ?_)
  refine v_ 16 (fun _ _ => op_quoK rfl rfl (by kernel_rfl) e) <| v_ 17 (fun _ _ => oF 4 4 rfl) <| v_ 18 (fun _ c1 => oL (c1.cell 1 (u := .int .i64 _) rfl rfl)) <| lm_ck (fun f => ?_)
  refine v_ 19 (fun _ _ => op_sub rfl rfl f) <| v_ 20 (fun _ _ => op_max rfl rfl) <| la 2 ((5, .int .i64 _) :: (4, .int .i64 _) :: _) rfl <| nn <| cm_ret ?_
  exact xm_retTT rfl (by kernel_rfl) (show _ = Value.int .i64 _ from rfl) (by kernel_rfl) (show _ = Value.int .i64 _ from rfl) fun w1 c1 => ⟨(), rfl, hsub [] (by kernel_rfl) rfl w1 c1⟩
/-- tariff.priced -/
def m_tariff_priced (_N : Nat) (p0 : Int) : Option (Int) :=
 some (p0)
set_option maxRecDepth 20000 in
theorem m_tariff_priced_ok (N : Nat) (w0 w : World) (F : List HE) (p0 : Int)   (hw : Hs w0 ([] ++ [packE w0.heap.size F]) w) (r : Int) (hr : m_tariff_priced N p0 = some r) :
  Calls Tryz.prog 59 [.int .i64 p0].toArray w fun x w1 => ∃ u, x = .returned ((fun (_r : Int) (u : Nat) => (.func (.func 115) #[] #[.pointer (some ⟨u, 0, none⟩)] : Value)) r u) ∧ Hs w0 ((fun (r : Int) (u : Nat) => [blkE u 3 [.int .i64 r]]) r u ++ [packE w0.heap.size F]) w1 := by
 refine calls_cmH (n := 4) (R := fun r x w1 => ∃ u, x = .returned ((fun (_r : Int) (u : Nat) => (.func (.func 115) #[] #[.pointer (some ⟨u, 0, none⟩)] : Value)) r u) ∧ Hs w0 ((fun (r : Int) (u : Nat) => [blkE u 3 [.int .i64 r]]) r u ++ [packE w0.heap.size F]) w1) Tryz.func59 rfl rfl (Nat.le_of_ble_eq_true rfl) ?_ hw r hr
 unfold m_tariff_priced
 refine sr <| lm_box 1 [.int .i64 _] (by kernel_rfl) rfl ?_
 intro b6
 refine la 1 ((2, .nilFunc) :: _) rfl <| nn <| sr <| v_ 3 (fun _ _ => op_makeFuncC [.pointer (some ⟨_, _, _⟩)] rfl) <| la 1 ((2, .func _ _ _) :: _) rfl <| nn <| cm_ret ?_
 exact xm_retT rfl (by kernel_rfl) (show _ = Value.func _ _ _ from rfl) fun w1 c1 => ⟨b6, rfl, hsub [0, 1] (by kernel_rfl) rfl w1 c1⟩
/-- tariff.priced$1 -/
def m_tariff_priced_1 (_N : Nat) (p0 : Int) (p1 : Int) (p2 : Int) (q0 : Int) : Option (ApiItem) :=
 ck (I64 (p1 * p2)) (
  some ((ApiItem.mk q0 p0 p1 p2 (p1 * p2))))
set_option maxRecDepth 20000 in
theorem m_tariff_priced_1_ok (N : Nat) (w0 : World) (p0 : Int) (p1 : Int) (p2 : Int) (q0 : Int) (a : Nat) (b : Blk w0 a 3 [.int .i64 q0]) (r : ApiItem) (hr : m_tariff_priced_1 N p0 p1 p2 q0 = some r) :
  Ret Tryz.prog 115 [.int .i64 p0, .int .i64 p1, .int .i64 p2, .pointer (some ⟨a, 0, none⟩)] w0 (fun (r : ApiItem) (_u : Unit) => .agg #[.int .i64 r.Kind, .int .i64 r.Ref, .int .i64 r.Count, .int .i64 r.Price, .int .i64 r.Amount]) (fun (_r : ApiItem) (_u : Unit) => []) r := by
 refine calls_v (n := 16) r hr Tryz.func115 ?_
 unfold m_tariff_priced_1
 refine sr <| lm_alloc 7 [.int .i64 0, .int .i64 0, .int .i64 0, .int .i64 0, .int .i64 0] (v := .agg #[.int .i64 0, .int .i64 0, .int .i64 0, .int .i64 0, .int .i64 0]) (by kernel_rfl) (by kernel_rfl) rfl ?_
 intro b5
 refine nn <| sr <| v_ 8 (fun _ c1 => oL (c1.ocell (b.at_ 0 (u := .int .i64 _) rfl))) <| la 5 ((13, .int .i64 _) :: (12, .int .i64 _) :: (11, .int .i64 _) :: (10, .int .i64 _) :: (9, .int .i64 _) :: _) rfl <| lm_ck (fun h6 => ?_)
 refine v_ 14 (fun _ _ => op_mul rfl rfl h6) <| v_ 15 (fun _ _ => op_build (z := [.int .i64 0, .int .i64 0, .int .i64 0, .int .i64 0, .int .i64 0]) (tab := [(0, 1), (1, 1), (2, 1), (3, 1), (4, 1)]) (cs := [.int .i64 _, .int .i64 _, .int .i64 _, .int .i64 _, .int .i64 _]) [(0, [.int .i64 _]), (1, [.int .i64 _]), (2, [.int .i64 _]), (3, [.int .i64 _]), (4, [.int .i64 _])] (by kernel_rfl) (by kernel_rfl) (fillOk_cons rfl rfl rfl (fillOk_cons rfl rfl rfl (fillOk_cons rfl rfl rfl (fillOk_cons rfl rfl rfl (fillOk_cons rfl rfl rfl fillOk_nil))))) rfl) <| lm_storeA 0 [.int .i64 _, .int .i64 _, .int .i64 _, .int .i64 _, .int .i64 _] [_, _, _, _, _] (H' := [blkE _ _ [_, _, _, _, _]]) (by kernel_rfl) rfl rfl (by kernel_rfl) rfl rfl (by kernel_rfl) rfl rfl <| nn <| cm_ret ?_
 exact xm_retC rfl (by kernel_rfl) (show _ = Value.pointer (some ⟨_, 0, none⟩) from rfl) (by kernel_rfl) (fun w1 c1 => c1.cells 0 (ds := [.int .i64 _, .int .i64 _, .int .i64 _, .int .i64 _, .int .i64 _]) rfl rfl) fun w1 c1 => ⟨(), rfl, hsub [] (by kernel_rfl) rfl w1 c1⟩
/-- tariff.Items -/
def m_tariff_Items (N : Nat) (p0 : ApiTariff) (p1 : ApiEmptying) : Option ((List ApiItem) × Int) :=
 Option.bind (m_tariff_Weight N p0 p1.Mass) fun r7 => callIf ((!(decide (r7.2 ≠ 0))) = true) (m_tariff_between N (1 : Int) p1.ID (1000000 : Int)) fun r9 => (if ((decide (r7.2 ≠ 0)) || (!r9)) = true then
  some ((([] : List ApiItem), (1 : Int)))
 else
  Option.bind (m_tariff_priced N (2 : Int)) fun f => Option.bind (m_tariff_priced_1 N p1.ID (1 : Int) p0.Empty f) fun a => (andThen
   (if 0 < r7.1 then
    Option.bind (m_tariff_priced N (3 : Int)) fun d => Option.bind (m_tariff_priced_1 N p1.ID r7.1 p0.Kilo d) fun b => ck ((List.length ([a]) + List.length ([b])) * 40 ≤ 140737488355328) (
     some (.next (([a]) ++ ([b]))))
   else
    some (.next ([a])))
  fun (e : (List ApiItem)) =>
   some ((e, (0 : Int)))))
set_option maxHeartbeats 2000000 in
set_option maxRecDepth 20000 in
theorem m_tariff_Items_ok (N : Nat) (w0 : World) (p0 : ApiTariff) (p1 : ApiEmptying)   (r : (List ApiItem) × Int) (hr : m_tariff_Items N p0 p1 = some r) :
  Ret Tryz.prog 76 [.agg #[.int .i64 p0.From, .int .i64 p0.Base, .int .i64 p0.Empty, .int .i64 p0.Kilo, .int .i64 p0.Free], .agg #[.int .i64 p1.ID, .int .i64 p1.Container, .int .i64 p1.Vehicle, .int .i64 p1.At, .int .i64 p1.Mass.Lo, .int .i64 p1.Mass.Hi, .bool p1.Void]] w0 (fun (r : (List ApiItem) × Int) (u : (Option Addr) × Nat × Nat) => .tuple #[.slice u.1 u.2.1 u.2.2, .int .i64 r.2]) (fun (r : (List ApiItem) × Int) (u : (Option Addr) × Nat × Nat) => [ownE 100 5 encApiItem u.1 u.2.1 u.2.2 r.1]) r := by
 refine calls_v (n := 44) r hr Tryz.func76 ?_
 unfold m_tariff_Items
 refine sr <| lm_box 2 [.int .i64 _, .int .i64 _, .int .i64 _, .int .i64 _, .int .i64 _] (by kernel_rfl) rfl ?_
 intro b5
 refine lm_box 3 [.int .i64 _, .int .i64 _, .int .i64 _, .int .i64 _, .int .i64 _, .int .i64 _, .bool _] (by kernel_rfl) rfl ?_
 intro b6
 refine la 2 ((5, .int .i64 _) :: (4, .slice _ _ _) :: _) rfl <| nn <| sr <| v_ 10 (fun _ c1 => oR [.int .i64 _, .int .i64 _, .int .i64 _, .int .i64 _, .int .i64 _] (c1.cells 1 rfl rfl)) <| v_ 11 (fun _ _ => oF 4 4 rfl) <| v_ 12 (fun _ c1 => oR [.int .i64 _, .int .i64 _] (c1.cells 0 rfl rfl)) <| lm_call 13 (V := (fun (r : Int × Int) (_u : Unit) => .tuple #[.int .i64 r.1, .int .i64 r.2])) (HR := (fun (_r : Int × Int) (_u : Unit) => [])) (by kernel_rfl) (fun w1 => op_call (by kernel_rfl)) (fun r1 hr1 w1 c1 => m_tariff_Weight_ok N w1 p0 p1.Mass  r1 hr1) ?_
 intro r7 u8
 refine la 5 ((7, .int .i64 _) :: (6, .int .i64 _) :: (15, .int .i64 _) :: (14, .int .i64 _) :: (9, .tuple _) :: _) rfl <| nn <| cm_seq <| cm_seq <| cm_callIf fun r9 a7 => cm_cutE [(23, .bool ((decide (r7.2 ≠ 0)) || (!r9)))] ?_ ?_
 ·refine qa 1 ((16, .int .i64 _) :: _) rfl <| qd 17 (fun _ _ => op_neq rfl rfl) (fun C => ?_) (fun C => ?_)
  ·refine qa 6 ((23, .bool true) :: (22, undef) :: (21, undef) :: (20, undef) :: (19, undef) :: (18, .bool true) :: _) rfl ?_
   exact leaf_q (sub_out 8 _ rfl (by kernel_rfl) ⟨(congrArg Value.bool (by rw [decide_eq_true C] <;> rfl)), trivial⟩)
  ·refine qa 1 ((18, .bool false) :: _) rfl <| q_ 19 (fun _ _ => oF 0 0 rfl) <| q_ 20 (fun _ c1 => oL (c1.cell 0 (u := .int .i64 _) rfl rfl)) <| wq_call 21 (by kernel_rfl) (fun w1 c1 => op_call (by kernel_rfl)) (fun w1 c1 => (m_tariff_between_ok N w1 (1 : Int) p1.ID (1000000 : Int)  r9 (a7 (by rw [decide_eq_false C] <;> rfl))).mono (fun _ _ ⟨_, hx, hu⟩ => ⟨hx, c1.call hu⟩)) <| qa 2 ((23, .bool _) :: (22, .bool _) :: _) rfl ?_
   exact leaf_q (sub_out 8 _ rfl (by kernel_rfl) ⟨(congrArg Value.bool (by rw [decide_eq_false C] <;> rfl)), trivial⟩)
 refine xm_next <| cm_condB (by kernel_rfl) rfl (fun a8 => ?_) (fun a8 => ?_)
 ·refine sr <| la 2 ((5, .int .i64 _) :: (4, .slice _ _ _) :: _) rfl <| nn <| cm_ret <| xm_thenR <| xm_nilrow 100 5 encApiItem ?_
  exact xm_retTT rfl (by kernel_rfl) (show _ = Value.slice _ _ _ from rfl) (by kernel_rfl) (show _ = Value.int .i64 _ from rfl) fun w1 c1 => ⟨(none, 0, 0), rfl, hsub [0] (by kernel_rfl) rfl w1 c1⟩
 ·refine sk <| cm_seq <| cm_bind fun j a9 => cm_bind fun g aa => cm_held (ξ := (Option Addr) × Nat × Nat) (fun a => [(2, .pointer (some ⟨b5, 0, none⟩)), (3, .pointer (some ⟨b6, 0, none⟩)), (6, .int .i64 r7.1), (8, .slice a.1 a.2.1 a.2.2)]) (fun a => [blkE b5 108 [.int .i64 p0.From, .int .i64 p0.Base, .int .i64 p0.Empty, .int .i64 p0.Kilo, .int .i64 p0.Free], blkE b6 117 [.int .i64 p1.ID, .int .i64 p1.Container, .int .i64 p1.Vehicle, .int .i64 p1.At, .int .i64 p1.Mass.Lo, .int .i64 p1.Mass.Hi, .bool p1.Void], ownE 100 5 encApiItem a.1 a.2.1 a.2.2 ([g])]) [blkE b6 117 [.int .i64 p1.ID, .int .i64 p1.Container, .int .i64 p1.Vehicle, .int .i64 p1.At, .int .i64 p1.Mass.Lo, .int .i64 p1.Mass.Hi, .bool p1.Void], blkE b5 108 [.int .i64 p0.From, .int .i64 p0.Base, .int .i64 p0.Empty, .int .i64 p0.Kilo, .int .i64 p0.Free]] 8 (by kernel_rfl) (by rfl) (hsub [0, 1] (by kernel_rfl) (by rfl)) ?_ ?_
  ·intro ah q
   refine wh_take 1 25 rfl (by kernel_rfl) (by kernel_rfl) (fun w2 c2 => (op_fieldL (m := 0) (k := 0) rfl (by kernel_rfl) rfl)) (hsub [0, 1] (by kernel_rfl) rfl _ q) <| wh_take 2 26 rfl (by kernel_rfl) (by kernel_rfl) (fun w2 c2 => (op_load rfl (by kernel_rfl) (c2.cell 0 (u := .int .i64 _) rfl rfl))) (hsub [0, 1] (by kernel_rfl) rfl _ q) <| wh_take 3 27 rfl (by kernel_rfl) (by kernel_rfl) (fun w2 c2 => (op_fieldL (m := 2) (k := 2) rfl (by kernel_rfl) rfl)) (hsub [0, 1] (by kernel_rfl) rfl _ q) <| wh_take 4 28 rfl (by kernel_rfl) (by kernel_rfl) (fun w2 c2 => (op_load rfl (by kernel_rfl) (c2.cell 1 (u := .int .i64 _) rfl rfl))) (hsub [0, 1] (by kernel_rfl) rfl _ q) <| wh_ready [0] (by kernel_rfl) rfl ⟨?_, trivial⟩
   refine ws_callH 24 (V := fun (u : Nat) => (fun (_r : Int) (u : Nat) => (.func (.func 115) #[] #[.pointer (some ⟨u, 0, none⟩)] : Value)) j u) [] [blkE b6 117 [.int .i64 p1.ID, .int .i64 p1.Container, .int .i64 p1.Vehicle, .int .i64 p1.At, .int .i64 p1.Mass.Lo, .int .i64 p1.Mass.Hi, .bool p1.Void], blkE b5 108 [.int .i64 p0.From, .int .i64 p0.Base, .int .i64 p0.Empty, .int .i64 p0.Kilo, .int .i64 p0.Free]] (O := fun (u : Nat) => (fun (r : Int) (u : Nat) => [blkE u 3 [.int .i64 r]]) j u) (sh [0, 1]) rfl (by kernel_rfl) (op_call (by kernel_rfl)) q (fun c1 => m_tariff_priced_ok N w0 _ [blkE b6 117 [.int .i64 p1.ID, .int .i64 p1.Container, .int .i64 p1.Vehicle, .int .i64 p1.At, .int .i64 p1.Mass.Lo, .int .i64 p1.Mass.Hi, .bool p1.Void], blkE b5 108 [.int .i64 p0.From, .int .i64 p0.Base, .int .i64 p0.Empty, .int .i64 p0.Kilo, .int .i64 p0.Free]] (2 : Int)  c1 j a9) ?_
   intro J ai K
   refine ⟨(hsub [1, 2] (by kernel_rfl) rfl _ K), ?_⟩
   refine wh_strong (Hs w0 [blkE J 3 [.int .i64 j], blkE b6 117 [.int .i64 p1.ID, .int .i64 p1.Container, .int .i64 p1.Vehicle, .int .i64 p1.At, .int .i64 p1.Mass.Lo, .int .i64 p1.Mass.Hi, .bool p1.Void], blkE b5 108 [.int .i64 p0.From, .int .i64 p0.Base, .int .i64 p0.Empty, .int .i64 p0.Kilo, .int .i64 p0.Free]]) (fun w2 c2 => hsub [1, 2] (by kernel_rfl) rfl w2 c2) <| wh_ready [5] (by kernel_rfl) rfl ⟨?_, trivial⟩
   refine ws_call 29 rfl (by kernel_rfl) (op_callv rfl (by kernel_rfl)) (m_tariff_priced_1_ok N _ p1.ID (1 : Int) p0.Empty j J (K.blk 0 rfl) g aa) ?_
   rintro x aj ⟨ak, rfl, G⟩
   replace G := K.call G
   refine ⟨_, rfl, (hsub [0, 1, 2] (by kernel_rfl) rfl _ G), ?_⟩
   refine wh_ready [6] (by kernel_rfl) rfl ⟨?_, trivial⟩
   refine ws_sliceN 30 (el := 100) (sz := 5) (bytes := 40) (enc := encApiItem) [g] rfl (by kernel_rfl) (by kernel_rfl) encApiItem_len rfl ⟨rfl, rfl, trivial⟩ (by kernel_rfl) (by kernel_rfl) G ?_
   intro M Q U al L
   refine ⟨(hsub [1, 2, 3] (by kernel_rfl) rfl _ L), ?_⟩
   refine wh_strong (Hs w0 [ownE 100 5 encApiItem M Q U ([g]), blkE J 3 [.int .i64 j], blkE b6 117 [.int .i64 p1.ID, .int .i64 p1.Container, .int .i64 p1.Vehicle, .int .i64 p1.At, .int .i64 p1.Mass.Lo, .int .i64 p1.Mass.Hi, .bool p1.Void], blkE b5 108 [.int .i64 p0.From, .int .i64 p0.Base, .int .i64 p0.Empty, .int .i64 p0.Kilo, .int .i64 p0.Free]]) (fun w2 c2 => hsub [1, 2, 3] (by kernel_rfl) rfl w2 c2) <| wh_take 7 8 rfl (by kernel_rfl) (by kernel_rfl) (fun w2 c2 => (op_assign (v := .slice _ _ _) rfl)) (hsub [0, 1, 2, 3] (by kernel_rfl) rfl _ L) ?_
   exact wh_done (M, Q, U) (by kernel_rfl) sq (hsub [3, 2, 0] (by kernel_rfl) rfl _ L)
  intro a
  refine xm_next <| cm_join (σ := (List ApiItem)) (ξ := (Option Addr) × Nat × Nat) (fun t b => [(8, .slice b.1 b.2.1 b.2.2)]) (fun t b => [ownE 100 5 encApiItem b.1 b.2.1 b.2.2 t]) ?_ ?_
  ·refine sr <| la 2 ((32, .bool _) :: (31, .int .i64 _) :: _) rfl <| nn <| cm_cond (by kernel_rfl) rfl (fun X => ?_) (fun X => ?_)
   ·refine cm_bind fun f Y => cm_bind fun i Z => cm_ck (fun a0 => ?_)
    refine cm_of_then <| cm_held (ξ := (Option Addr) × Nat × Nat) (fun d => [(8, .slice d.1 d.2.1 d.2.2)]) (fun d => [ownE 100 5 encApiItem d.1 d.2.1 d.2.2 (([g]) ++ ([i]))]) [blkE b5 108 [.int .i64 p0.From, .int .i64 p0.Base, .int .i64 p0.Empty, .int .i64 p0.Kilo, .int .i64 p0.Free], blkE b6 117 [.int .i64 p1.ID, .int .i64 p1.Container, .int .i64 p1.Vehicle, .int .i64 p1.At, .int .i64 p1.Mass.Lo, .int .i64 p1.Mass.Hi, .bool p1.Void]] 11 (by kernel_rfl) (by rfl) (hsub [0, 1] (by kernel_rfl) (by rfl)) ?_ ?_
    ·intro ab e
     refine wh_take 0 33 rfl (by kernel_rfl) (by kernel_rfl) (fun w2 c2 => (op_move (v := .slice _ _ _) rfl)) (hsub [0, 1] (by kernel_rfl) rfl _ e) <| wh_take 2 35 rfl (by kernel_rfl) (by kernel_rfl) (fun w2 c2 => (op_fieldL (m := 0) (k := 0) rfl (by kernel_rfl) rfl)) (hsub [0, 1] (by kernel_rfl) rfl _ e) <| wh_take 3 36 rfl (by kernel_rfl) (by kernel_rfl) (fun w2 c2 => (op_load rfl (by kernel_rfl) (c2.cell 1 (u := .int .i64 _) rfl rfl))) (hsub [0, 1] (by kernel_rfl) rfl _ e) <| wh_take 4 37 rfl (by kernel_rfl) (by kernel_rfl) (fun w2 c2 => (op_move (v := .int .i64 _) rfl)) (hsub [0, 1] (by kernel_rfl) rfl _ e) <| wh_take 5 38 rfl (by kernel_rfl) (by kernel_rfl) (fun w2 c2 => (op_fieldL (m := 3) (k := 3) rfl (by kernel_rfl) rfl)) (hsub [0, 1] (by kernel_rfl) rfl _ e) <| wh_take 6 39 rfl (by kernel_rfl) (by kernel_rfl) (fun w2 c2 => (op_load rfl (by kernel_rfl) (c2.cell 0 (u := .int .i64 _) rfl rfl))) (hsub [0, 1] (by kernel_rfl) rfl _ e) <| wh_ready [1] (by kernel_rfl) rfl ⟨?_, trivial⟩
     refine ws_callH 34 (V := fun (u : Nat) => (fun (_r : Int) (u : Nat) => (.func (.func 115) #[] #[.pointer (some ⟨u, 0, none⟩)] : Value)) f u) [] [blkE b5 108 [.int .i64 p0.From, .int .i64 p0.Base, .int .i64 p0.Empty, .int .i64 p0.Kilo, .int .i64 p0.Free], blkE b6 117 [.int .i64 p1.ID, .int .i64 p1.Container, .int .i64 p1.Vehicle, .int .i64 p1.At, .int .i64 p1.Mass.Lo, .int .i64 p1.Mass.Hi, .bool p1.Void], ownE 100 5 encApiItem a.1 a.2.1 a.2.2 ([g])] (O := fun (u : Nat) => (fun (r : Int) (u : Nat) => [blkE u 3 [.int .i64 r]]) f u) (sh [0, 1, 2]) rfl (by kernel_rfl) (op_call (by kernel_rfl)) e (fun c1 => m_tariff_priced_ok N w0 _ [blkE b5 108 [.int .i64 p0.From, .int .i64 p0.Base, .int .i64 p0.Empty, .int .i64 p0.Kilo, .int .i64 p0.Free], blkE b6 117 [.int .i64 p1.ID, .int .i64 p1.Container, .int .i64 p1.Vehicle, .int .i64 p1.At, .int .i64 p1.Mass.Lo, .int .i64 p1.Mass.Hi, .bool p1.Void], ownE 100 5 encApiItem a.1 a.2.1 a.2.2 ([g])] (3 : Int)  c1 f Y) ?_
     intro y ac z
     refine ⟨(hsub [1, 2] (by kernel_rfl) rfl _ z), ?_⟩
     refine wh_strong (Hs w0 [blkE y 3 [.int .i64 f], blkE b5 108 [.int .i64 p0.From, .int .i64 p0.Base, .int .i64 p0.Empty, .int .i64 p0.Kilo, .int .i64 p0.Free], blkE b6 117 [.int .i64 p1.ID, .int .i64 p1.Container, .int .i64 p1.Vehicle, .int .i64 p1.At, .int .i64 p1.Mass.Lo, .int .i64 p1.Mass.Hi, .bool p1.Void]]) (fun w2 c2 => hsub [1, 2] (by kernel_rfl) rfl w2 c2) <| wh_ready [7] (by kernel_rfl) rfl ⟨?_, trivial⟩
     refine ws_call 40 rfl (by kernel_rfl) (op_callv rfl (by kernel_rfl)) (m_tariff_priced_1_ok N _ p1.ID r7.1 p0.Kilo f y (z.blk 0 rfl) i Z) ?_
     rintro x ad ⟨ae, rfl, l⟩
     replace l := z.call l
     refine ⟨_, rfl, (hsub [0, 1, 2] (by kernel_rfl) rfl _ l), ?_⟩
     refine wh_ready [8] (by kernel_rfl) rfl ⟨?_, trivial⟩
     refine ws_sliceN 41 (el := 100) (sz := 5) (bytes := 40) (enc := encApiItem) [i] rfl (by kernel_rfl) (by kernel_rfl) encApiItem_len rfl ⟨rfl, rfl, trivial⟩ (by kernel_rfl) (by kernel_rfl) l ?_
     intro a1 a2 a3 af o
     refine ⟨(hsub [1, 2, 3] (by kernel_rfl) rfl _ o), ?_⟩
     refine wh_strong (Hs w0 [ownE 100 5 encApiItem a1 a2 a3 ([i]), blkE y 3 [.int .i64 f], blkE b5 108 [.int .i64 p0.From, .int .i64 p0.Base, .int .i64 p0.Empty, .int .i64 p0.Kilo, .int .i64 p0.Free], blkE b6 117 [.int .i64 p1.ID, .int .i64 p1.Container, .int .i64 p1.Vehicle, .int .i64 p1.At, .int .i64 p1.Mass.Lo, .int .i64 p1.Mass.Hi, .bool p1.Void]]) (fun w2 c2 => hsub [1, 2, 3] (by kernel_rfl) rfl w2 c2) <| wh_ready [9] (by kernel_rfl) rfl ⟨?_, trivial⟩
     refine ws_append 42 4 (el := 100) (sz := 5) (bytes := 40) (enc := encApiItem) (l2 := ([i])) rfl (by kernel_rfl) (by kernel_rfl) encApiItem_len encApiItem_one rfl rfl rfl (o.ownZ 0 rfl) (o.own 0 rfl encApiItem_len) a0 (by kernel_rfl) o ?_
     intro a4 a5 a6 ag B
     refine ⟨(hsub [0, 1, 2, 3] (by kernel_rfl) rfl _ B), ?_⟩
     refine wh_take 10 8 rfl (by kernel_rfl) (by kernel_rfl) (fun w2 c2 => (op_assign (v := .slice _ _ _) rfl)) (hsub [0, 1, 2, 3] (by kernel_rfl) rfl _ B) ?_
     exact wh_done (a4, a5, a6) (by kernel_rfl) sq (hsub [4] (by kernel_rfl) rfl _ B)
    intro d
    refine xm_of_then ?_
    exact xm_lnext (d.1, d.2.1, d.2.2) sq (sh [0])
   ·refine cm_skip ?_
    exact xm_lnext (a.1, a.2.1, a.2.2) sq (sh [2])
  intro t b
  refine sr <| la 3 ((5, .int .i64 _) :: (4, .slice _ _ _) :: (43, .slice _ _ _) :: _) rfl <| nn <| cm_ret ?_
  exact xm_retTT rfl (by kernel_rfl) (show _ = Value.slice _ _ _ from rfl) (by kernel_rfl) (show _ = Value.int .i64 _ from rfl) fun w1 c1 => ⟨(b.1, b.2.1, b.2.2), rfl, hsub [0] (by kernel_rfl) rfl w1 c1⟩
/-- tariff.Base -/
def m_tariff_Base (N : Nat) (p0 : (List ApiTariff)) (p1 : ApiWindow) : Option ((List ApiItem) × Int) :=
 Option.bind (m_tariff_Check N p0) fun r6 => (if r6 ≠ 0 then
  some ((([] : List ApiItem), r6))
 else
  (if (((decide (p1.From < 0)) || (decide (p1.To < p1.From))) || (decide (36525 < p1.To))) = true then
   some ((([] : List ApiItem), (1 : Int)))
  else
   ck (decide (p1.From < p1.To) = true → (0 : Int) ≤ 0 ∧ 0 < (List.length p0 : Int)) (
    (if ((decide (p1.From < p1.To)) && (decide (p1.From < (ix p0 0).From))) = true then
     some ((([] : List ApiItem), (7 : Int)))
    else
     Option.bind (m_tariff_priced N (1 : Int)) fun g => (andThen
      (loopM (fun (a : (List ApiItem) × Int) =>
       (if a.2 < (List.length p0 : Int) then
        (andThen
         (ck ((0 : Int) ≤ a.2 ∧ a.2 < (List.length p0 : Int)) (
          (andThen
           (ck (I64 (a.2 + (1 : Int))) (
            (if (a.2 + (1 : Int)) < (List.length p0 : Int) then
             ck (I64 (a.2 + (1 : Int))) (
              ck ((0 : Int) ≤ (a.2 + (1 : Int)) ∧ (a.2 + (1 : Int)) < (List.length p0 : Int)) (
               some (.next (min p1.To ((ix p0 (a.2 + (1 : Int))).From)))))
            else
             some (.next p1.To))))
          fun (b : Int) =>
           ck (I64 (b - (max p1.From ((ix p0 a.2).From)))) (
            (if 0 < (b - (max p1.From ((ix p0 a.2).From))) then
             Option.bind (m_tariff_priced_1 N a.2 (b - (max p1.From ((ix p0 a.2).From))) ((ix p0 a.2).Base) g) fun d => ck ((List.length a.1 + List.length ([d])) * 40 ≤ 140737488355328) (
              some (.next (a.1 ++ ([d]))))
            else
             some (.next a.1))))))
        fun (e : (List ApiItem)) =>
         ck (I64 (a.2 + (1 : Int))) (
          some (.next (e, (a.2 + (1 : Int))))))
       else
        some (.done (.next a.1)))) N (([] : List ApiItem), (0 : Int)))
     fun (f : (List ApiItem)) =>
      some ((f, (0 : Int))))))))
set_option maxHeartbeats 2000000 in
set_option maxRecDepth 20000 in
theorem m_tariff_Base_ok (N : Nat) (w0 : World) (p0 : (List ApiTariff)) (p1 : ApiWindow) (f : Option Addr) (g : Nat) (i : Nat) (j : RdE w0 5 encApiTariff f p0) (l : SW f g i (List.length p0)) (r : (List ApiItem) × Int) (hr : m_tariff_Base N p0 p1 = some r) :
  Ret Tryz.prog 23 [.slice f g i, .agg #[.int .i64 p1.From, .int .i64 p1.To]] w0 (fun (r : (List ApiItem) × Int) (u : (Option Addr) × Nat × Nat) => .tuple #[.slice u.1 u.2.1 u.2.2, .int .i64 r.2]) (fun (r : (List ApiItem) × Int) (u : (Option Addr) × Nat × Nat) => [ownE 100 5 encApiItem u.1 u.2.1 u.2.2 r.1]) r := by
 refine calls_v (n := 90) r hr Tryz.func23 ?_
 unfold m_tariff_Base
 refine sr <| lm_box 3 [.int .i64 _, .int .i64 _] (by kernel_rfl) rfl ?_
 intro b5
 refine la 2 ((5, .int .i64 _) :: (4, .slice _ _ _) :: _) rfl <| nn <| cm_seq <| sr <| la 1 ((13, .slice _ _ _) :: _) rfl <| lm_call 14 (V := (fun (r : Int) (_u : Unit) => .int .i64 r)) (HR := (fun (_r : Int) (_u : Unit) => [])) (by kernel_rfl) (fun w1 => op_call (by kernel_rfl)) (fun r1 hr1 w1 c1 => m_tariff_Check_ok N w1 p0 f g i (j.old c1) l r1 hr1) ?_
 intro r6 u7
 refine la 1 ((6, .int .i64 _) :: _) rfl <| nn <| sr <| la 2 ((16, .bool _) :: (15, .int .i64 _) :: _) rfl <| nn <| cm_cond (by kernel_rfl) rfl (fun h8 => ?_) (fun h8 => ?_)
 ·refine sr <| la 3 ((5, .int .i64 _) :: (4, .slice _ _ _) :: (17, .int .i64 _) :: _) rfl <| nn <| cm_ret <| xm_thenR <| xm_nilrow 100 5 encApiItem ?_
  exact xm_retTT rfl (by kernel_rfl) (show _ = Value.slice _ _ _ from rfl) (by kernel_rfl) (show _ = Value.int .i64 _ from rfl) fun w1 c1 => ⟨(none, 0, 0), rfl, hsub [0] (by kernel_rfl) rfl w1 c1⟩
 ·refine sk <| cm_seq <| cm_seq <| cm_cutE [(32, .bool (((decide (p1.From < 0)) || (decide (p1.To < p1.From))) || (decide (36525 < p1.To))))] ?_ ?_
  ·refine q_ 18 (fun _ _ => oF 0 0 rfl) <| q_ 19 (fun _ c1 => oL (c1.cell 0 (u := .int .i64 _) rfl rfl)) <| qd 20 (fun _ _ => op_lss rfl rfl) (fun h9 => ?_) (fun h9 => ?_)
   ·refine qa 12 ((32, .bool true) :: (31, undef) :: (30, undef) :: (29, undef) :: (28, .bool true) :: (27, .bool true) :: (26, undef) :: (25, undef) :: (24, undef) :: (23, undef) :: (22, undef) :: (21, .bool true) :: _) rfl ?_
    exact leaf_q (sub_out 15 _ rfl (by kernel_rfl) ⟨(congrArg Value.bool (by rw [decide_eq_true h9] <;> rfl)), trivial⟩)
   ·refine qa 1 ((21, .bool false) :: _) rfl <| q_ 22 (fun _ _ => oF 0 0 rfl) <| q_ 23 (fun _ c1 => oL (c1.cell 0 (u := .int .i64 _) rfl rfl)) <| q_ 24 (fun _ _ => oF 1 1 rfl) <| q_ 25 (fun _ c1 => oL (c1.cell 0 (u := .int .i64 _) rfl rfl)) <| qd 26 (fun _ _ => op_gtr rfl rfl) (fun G => ?_) (fun G => ?_)
    ·refine qa 6 ((32, .bool true) :: (31, undef) :: (30, undef) :: (29, undef) :: (28, .bool true) :: (27, .bool true) :: _) rfl ?_
     exact leaf_q (sub_out 15 _ rfl (by kernel_rfl) ⟨(congrArg Value.bool (by rw [decide_eq_false h9, decide_eq_true G] <;> rfl)), trivial⟩)
    ·refine qa 2 ((28, .bool false) :: (27, .bool false) :: _) rfl <| q_ 29 (fun _ _ => oF 1 1 rfl) <| q_ 30 (fun _ c1 => oL (c1.cell 0 (u := .int .i64 _) rfl rfl)) <| qa 2 ((32, .bool _) :: (31, .bool _) :: _) rfl ?_
     exact leaf_q (sub_out 15 _ rfl (by kernel_rfl) ⟨(congrArg Value.bool (by rw [decide_eq_false h9, decide_eq_false G] <;> rfl)), trivial⟩)
  refine xm_next <| cm_condB (by kernel_rfl) rfl (fun a5 => ?_) (fun a5 => ?_)
  ·refine sr <| la 2 ((5, .int .i64 _) :: (4, .slice _ _ _) :: _) rfl <| nn <| cm_ret <| xm_thenR <| xm_nilrow 100 5 encApiItem ?_
   exact xm_retTT rfl (by kernel_rfl) (show _ = Value.slice _ _ _ from rfl) (by kernel_rfl) (show _ = Value.int .i64 _ from rfl) fun w1 c1 => ⟨(none, 0, 0), rfl, hsub [0] (by kernel_rfl) rfl w1 c1⟩
  ·refine sk <| cm_seq <| cm_seq <| cm_ck (fun y => ?_)
   refine cm_drawn [(46, .bool ((decide (p1.From < p1.To)) && (decide (p1.From < (ix p0 0).From))))] (by kernel_rfl) (by kernel_rfl) ?_ ?_
   ·refine q_ 33 (fun _ _ => oF 0 0 rfl) <| q_ 34 (fun _ c1 => oL (c1.cell 0 (u := .int .i64 _) rfl rfl)) <| q_ 35 (fun _ _ => oF 1 1 rfl) <| q_ 36 (fun _ c1 => oL (c1.cell 0 (u := .int .i64 _) rfl rfl)) <| qd 37 (fun _ _ => op_lss rfl rfl) (fun m => ?_) (fun m => ?_)
    ·refine qa 1 ((38, .bool true) :: _) rfl <| q_ 39 (fun _ _ => oF 0 0 rfl) <| q_ 40 (fun _ c1 => oL (c1.cell 0 (u := .int .i64 _) rfl rfl)) <| qa 1 ((41, .slice _ _ _) :: _) rfl <| q_ 42 (fun _ c1 => oI 5 rfl rfl ((j.old c1).addr (y (by rw [decide_eq_true m] <;> rfl)).1 (y (by rw [decide_eq_true m] <;> rfl)).2) l.2.2 (y (by rw [decide_eq_true m] <;> rfl))) <| q_ 43 (fun _ _ => op_field0 rfl (by kernel_rfl)) <| q_ 44 (fun _ c1 => oL (v := .int .i64 ((ix p0 0).From)) ((j.old c1).cell0 (y (by rw [decide_eq_true m] <;> rfl)).1 (y (by rw [decide_eq_true m] <;> rfl)).2 rfl)) <| qa 2 ((46, .bool _) :: (45, .bool _) :: _) rfl ?_
     exact leaf_q (sub_out 14 _ rfl (by kernel_rfl) ⟨(congrArg Value.bool (by rw [decide_eq_true m] <;> rfl)), trivial⟩)
    ·refine qa 9 ((46, .bool false) :: (45, undef) :: (44, undef) :: (43, undef) :: (42, undef) :: (41, undef) :: (40, undef) :: (39, undef) :: (38, .bool false) :: _) rfl ?_
     exact leaf_q (sub_out 14 _ rfl (by kernel_rfl) ⟨(congrArg Value.bool (by rw [decide_eq_false m] <;> rfl)), trivial⟩)
   refine xm_next <| cm_condB (by kernel_rfl) rfl (fun a6 => ?_) (fun a6 => ?_)
   ·refine sr <| la 2 ((5, .int .i64 _) :: (4, .slice _ _ _) :: _) rfl <| nn <| cm_ret <| xm_thenR <| xm_nilrow 100 5 encApiItem ?_
    exact xm_retTT rfl (by kernel_rfl) (show _ = Value.slice _ _ _ from rfl) (by kernel_rfl) (show _ = Value.int .i64 _ from rfl) fun w1 c1 => ⟨(none, 0, 0), rfl, hsub [0] (by kernel_rfl) rfl w1 c1⟩
   ·refine sk <| sr <| lm_callH 47 (V := (fun (_r : Int) (u : Nat) => (.func (.func 115) #[] #[.pointer (some ⟨u, 0, none⟩)] : Value))) [] [blkE b5 49 [.int .i64 p1.From, .int .i64 p1.To]] (O := (fun (r : Int) (u : Nat) => [blkE u 3 [.int .i64 r]])) (sh [0]) (by kernel_rfl) (fun w1 => op_call (by kernel_rfl)) (fun r1 hr1 w1 c1 => m_tariff_priced_ok N w0 w1 [blkE b5 49 [.int .i64 p1.From, .int .i64 p1.To]] (1 : Int)  c1 r1 hr1) ?_
    intro C o
    refine la 1 ((7, .func _ _ _) :: _) rfl <| nn <| sr <| la 1 ((8, .slice _ _ _) :: _) rfl <| nn <| cm_join (σ := (List ApiItem)) (ξ := (Option Addr) × Nat × Nat) (fun z d => [(8, .slice d.1 d.2.1 d.2.2)]) (fun z d => [ownE 100 5 encApiItem d.1 d.2.1 d.2.2 z]) ?_ ?_
    ·refine sr <| la 1 ((48, .slice _ _ _) :: _) rfl <| v_ 49 (fun _ _ => op_lenN rfl (by kernel_rfl) l.2.2) <| la 1 ((50, .int .i64 _) :: _) rfl <| nn <| cm_block <| cm_nilrow 100 5 encApiItem <| cm_loop (σ := (List ApiItem) × Int) (ξ := (Option Addr) × Nat × Nat) (fun a b => [(0, .slice f g i), (3, .pointer (some ⟨b5, 0, none⟩)), (7, .func (.func 115) #[] #[.pointer (some ⟨o, 0, none⟩)]), (8, .slice b.1 b.2.1 b.2.2), (48, .slice f g i), (49, .int .i64 (List.length p0 : Int)), (50, .int .i64 a.2)]) (fun a b => [blkE b5 49 [.int .i64 p1.From, .int .i64 p1.To], blkE o 3 [.int .i64 C], ownE 100 5 encApiItem b.1 b.2.1 b.2.2 a.1]) (none, 0, 0) ?_ ?_ ?_
     ·exact sq
     ·exact sh [2, 1, 0]
     intro a b
     refine sr <| la 1 ((51, .bool _) :: _) rfl <| nn <| cm_seq <| cm_cond (by kernel_rfl) rfl (fun M => ?_) (fun M => ?_)
     ·refine sk <| cm_join (σ := (List ApiItem)) (ξ := (Option Addr) × Nat × Nat) (fun B e => [(0, .slice f g i), (3, .pointer (some ⟨b5, 0, none⟩)), (7, .func (.func 115) #[] #[.pointer (some ⟨o, 0, none⟩)]), (8, .slice e.1 e.2.1 e.2.2), (48, .slice f g i), (49, .int .i64 (List.length p0 : Int)), (50, .int .i64 a.2)]) (fun B e => [blkE b5 49 [.int .i64 p1.From, .int .i64 p1.To], blkE o 3 [.int .i64 C], ownE 100 5 encApiItem e.1 e.2.1 e.2.2 B]) ?_ ?_
      ·refine cm_block <| sr <| la 1 ((52, .int .i64 _) :: _) rfl <| lm_ck (fun q => ?_)
       refine v_ 53 (fun _ c1 => oI 5 rfl rfl ((j.old c1).addr q.1 q.2) l.2.2 q) <| v_ 54 (fun _ c1 => oR [.int .i64 ((ix p0 a.2).From), .int .i64 ((ix p0 a.2).Base), .int .i64 ((ix p0 a.2).Empty), .int .i64 ((ix p0 a.2).Kilo), .int .i64 ((ix p0 a.2).Free)] ((j.old c1).row q.1 q.2)) <| lm_alloc 10 [.int .i64 0, .int .i64 0, .int .i64 0, .int .i64 0, .int .i64 0] (v := .agg #[.int .i64 0, .int .i64 0, .int .i64 0, .int .i64 0, .int .i64 0]) (by kernel_rfl) (by kernel_rfl) rfl ?_
       intro J
       refine la 1 ((9, .int .i64 _) :: _) rfl <| lm_storeA 0 [.int .i64 _, .int .i64 _, .int .i64 _, .int .i64 _, .int .i64 _] [_, _, _, _, _] (H' := [blkE _ _ [_, _, _, _, _], _, _, _]) (by kernel_rfl) rfl rfl (by kernel_rfl) rfl rfl (by kernel_rfl) rfl rfl <| nn <| sr <| v_ 55 (fun _ _ => oF 1 1 rfl) <| v_ 56 (fun _ c1 => oL (c1.cell 1 (u := .int .i64 _) rfl rfl)) <| la 1 ((11, .int .i64 _) :: _) rfl <| nn <| cm_join (σ := Int) (ξ := Unit) (fun x K => [(0, .slice f g i), (3, .pointer (some ⟨b5, 0, none⟩)), (7, .func (.func 115) #[] #[.pointer (some ⟨o, 0, none⟩)]), (8, .slice b.1 b.2.1 b.2.2), (9, .int .i64 a.2), (10, .pointer (some ⟨J, 0, none⟩)), (11, .int .i64 x), (48, .slice f g i), (49, .int .i64 (List.length p0 : Int)), (50, .int .i64 a.2)]) (fun x K => [blkE b5 49 [.int .i64 p1.From, .int .i64 p1.To], blkE o 3 [.int .i64 C], ownE 100 5 encApiItem b.1 b.2.1 b.2.2 a.1, blkE J 108 [.int .i64 ((ix p0 a.2).From), .int .i64 ((ix p0 a.2).Base), .int .i64 ((ix p0 a.2).Empty), .int .i64 ((ix p0 a.2).Kilo), .int .i64 ((ix p0 a.2).Free)]]) ?_ ?_
       ·refine sr <| la 1 ((57, .int .i64 _) :: _) rfl <| lm_ck (fun Q => ?_)
        refine v_ 58 (fun _ _ => op_add rfl rfl Q) <| la 1 ((59, .slice _ _ _) :: _) rfl <| v_ 60 (fun _ _ => op_lenN rfl (by kernel_rfl) l.2.2) <| la 1 ((61, .bool _) :: _) rfl <| nn <| cm_cond (by kernel_rfl) rfl (fun U => ?_) (fun U => ?_)
        ·refine cm_region <| la 3 ((64, .int .i64 _) :: (63, .slice _ _ _) :: (62, .int .i64 _) :: _) rfl <| lm_ck (fun X => ?_)
         refine v_ 65 (fun _ _ => op_add rfl rfl X) <| lm_ck (fun t => ?_)
         refine v_ 66 (fun _ c1 => oI 5 rfl rfl ((j.old c1).addr t.1 t.2) l.2.2 t) <| v_ 67 (fun _ _ => op_field0 rfl (by kernel_rfl)) <| v_ 68 (fun _ c1 => oL (v := .int .i64 ((ix p0 (a.2 + (1 : Int))).From)) ((j.old c1).cell0 t.1 t.2 rfl)) <| v_ 69 (fun _ _ => op_min rfl rfl) <| la 1 ((11, .int .i64 _) :: _) rfl <| lm_nil ?_
         exact xm_lnext () sq (sh [1, 2, 3, 0])
        ·refine cm_skip ?_
         exact xm_lnext () sq (sh [1, 2, 3, 0])
       intro x K
       refine sr <| la 1 ((70, .int .i64 _) :: _) rfl <| v_ 71 (fun _ _ => oF 0 0 rfl) <| v_ 72 (fun _ c1 => oL (c1.cell 0 (u := .int .i64 _) rfl rfl)) <| v_ 73 (fun _ _ => oF 0 0 rfl) <| v_ 74 (fun _ c1 => oL (c1.cell 3 (u := .int .i64 _) rfl rfl)) <| v_ 75 (fun _ _ => op_max rfl rfl) <| lm_ck (fun Y => ?_)
       refine v_ 76 (fun _ _ => op_sub rfl rfl Y) <| la 1 ((12, .int .i64 _) :: _) rfl <| nn <| sr <| la 2 ((78, .bool _) :: (77, .int .i64 _) :: _) rfl <| nn <| cm_cond (by kernel_rfl) rfl (fun Z => ?_) (fun Z => ?_)
       ·refine cm_region <| la 4 ((82, .int .i64 _) :: (81, .int .i64 _) :: (80, .func _ _ _) :: (79, .slice _ _ _) :: _) rfl <| v_ 83 (fun _ _ => oF 1 1 rfl) <| v_ 84 (fun _ c1 => oL (c1.cell 3 (u := .int .i64 _) rfl rfl)) <| lm_call 85 (V := (fun (r : ApiItem) (_u : Unit) => .agg #[.int .i64 r.Kind, .int .i64 r.Ref, .int .i64 r.Count, .int .i64 r.Price, .int .i64 r.Amount])) (HR := (fun (_r : ApiItem) (_u : Unit) => [])) (by kernel_rfl) (fun w1 => op_callv rfl (by kernel_rfl)) (fun r1 hr1 w1 c1 => m_tariff_priced_1_ok N w1 a.2 (x - (max p1.From ((ix p0 a.2).From))) ((ix p0 a.2).Base) C o (c1.blk 1 rfl) r1 hr1) ?_
        intro L a7
        refine lm_slice1 86 (el := 100) (sz := 5) (bytes := 40) (enc := encApiItem) L (by kernel_rfl) (by kernel_rfl) encApiItem_len rfl (by kernel_rfl) ?_
        intro a8 a9 aa ab
        refine lm_ck (fun a0 => ?_)
        refine lm_append 87 3 (el := 100) (sz := 5) (bytes := 40) (enc := encApiItem) (l2 := ([L])) (by kernel_rfl) (by kernel_rfl) encApiItem_len encApiItem_one rfl rfl rfl (fun w1 c1 => (c1.ownZ 0 rfl)) (fun w1 c1 => (c1.own 0 rfl encApiItem_len)) a0 ?_ (by kernel_rfl)
        intro a1 a2 a3
        refine la 1 ((8, .slice _ _ _) :: _) rfl <| lm_nil <| xm_inN ?_
        exact xm_lnext (a1, a2, a3) sq (sh [1, 2, 3])
       ·refine cm_skip <| xm_inN ?_
        exact xm_lnext (b.1, b.2.1, b.2.2) sq (sh [0, 1, 2])
      intro B e
      refine cm_region <| lm_ck (fun a4 => ?_)
      refine v_ 88 (fun _ _ => op_add rfl rfl a4) <| la 1 ((50, .int .i64 _) :: _) rfl <| lm_nil ?_
      exact xm_lnext (e.1, e.2.1, e.2.2) sq (sh [0, 1, 2])
     ·refine cm_exit <| xm_thenE <| xm_lexit <| xm_here ?_
      exact xm_lnext (b.1, b.2.1, b.2.2) sq (sh [2])
    intro z d
    refine sr <| la 3 ((5, .int .i64 _) :: (4, .slice _ _ _) :: (89, .slice _ _ _) :: _) rfl <| nn <| cm_ret ?_
    exact xm_retTT rfl (by kernel_rfl) (show _ = Value.slice _ _ _ from rfl) (by kernel_rfl) (show _ = Value.int .i64 _ from rfl) fun w1 c1 => ⟨(d.1, d.2.1, d.2.2), rfl, hsub [0] (by kernel_rfl) rfl w1 c1⟩
end Go.Proofs.YtbnimhmoffchdaaGreatDoor
