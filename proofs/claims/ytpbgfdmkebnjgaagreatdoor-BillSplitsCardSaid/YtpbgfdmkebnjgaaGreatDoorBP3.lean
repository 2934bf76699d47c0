/- Models of functions, and that the code follows them. Written by deco.py. -/
import Derived.Test.YtpbgfdmkebnjgaaGreatDoorBP2
namespace Go.Proofs.YtpbgfdmkebnjgaaGreatDoor
open Go.RowKit
set_option linter.unusedSectionVars false
variable [JF]

structure ApiTariff where
 From : Int
 Base : Int
 Empty : Int
 Kilo : Int
 Free : Int
deriving DecidableEq, Inhabited
def encApiTariff (x : ApiTariff) : List Value := [.int .i64 x.From, .int .i64 x.Base, .int .i64 x.Empty, .int .i64 x.Kilo, .int .i64 x.Free]
def valApiTariff (x : ApiTariff) : Value := .agg #[.int .i64 x.From, .int .i64 x.Base, .int .i64 x.Empty, .int .i64 x.Kilo, .int .i64 x.Free]
theorem encApiTariff_len (x : ApiTariff) : (encApiTariff x).length = 5 := rfl
theorem encApiTariff_one (x : ApiTariff) : (encApiTariff x).all Value.oneCell' = true := rfl
structure ApiItem where
 Kind : Int
 Ref : Int
 Count : Int
 Price : Int
 Amount : Int
deriving DecidableEq, Inhabited
def encApiItem (x : ApiItem) : List Value := [.int .i64 x.Kind, .int .i64 x.Ref, .int .i64 x.Count, .int .i64 x.Price, .int .i64 x.Amount]
def valApiItem (x : ApiItem) : Value := .agg #[.int .i64 x.Kind, .int .i64 x.Ref, .int .i64 x.Count, .int .i64 x.Price, .int .i64 x.Amount]
theorem encApiItem_len (x : ApiItem) : (encApiItem x).length = 5 := rfl
theorem encApiItem_one (x : ApiItem) : (encApiItem x).all Value.oneCell' = true := rfl
/-- tariff.between -/
def m_tariff_between (_N : Nat) (p0 : Int) (p1 : Int) (p2 : Int) : Option (Bool) :=
 some (((decide (p0 ≤ p1)) && (decide (p1 ≤ p2))))
set_option maxRecDepth 20000 in
theorem m_tariff_between_ok (N : Nat) (w0 : World) (p0 : Int) (p1 : Int) (p2 : Int)   (r : Bool) (hr : m_tariff_between N p0 p1 p2 = some r) :
  Ret Tryz.prog 69 [.int .i64 p0, .int .i64 p1, .int .i64 p2] w0 (fun (r : Bool) (_u : Unit) => .bool r) (fun (_r : Bool) (_u : Unit) => []) r := by
 refine calls_v (n := 15) r hr Tryz.func69 ?_
 unfold m_tariff_between
 refine sr ?_
 refine la 1 ((6, .bool false) :: _) rfl ?_
 refine nn ?_
 refine cm_seq ?_
 refine cm_cutE [(6, .bool ((decide (p0 ≤ p1)) && (decide (p1 ≤ p2))))] ?_ ?_
 ·refine qa 2 ((8, .int .i64 _) :: (7, .int .i64 _) :: _) rfl ?_
  refine qd 9 (fun _ _ => op_leq rfl rfl) (fun h5 => ?_) (fun h5 => ?_)
  ·refine qa 6 ((6, .bool _) :: (14, .bool _) :: (13, .bool _) :: (12, .int .i64 _) :: (11, .int .i64 _) :: (10, .bool true) :: _) rfl ?_
   exact leaf_q (sub_out 9 _ rfl (by kernel_rfl) ⟨(congrArg Value.bool (by rw [decide_eq_true h5] <;> rfl)), trivial⟩)
  ·refine qa 6 ((6, .bool false) :: (14, .bool false) :: (13, undef) :: (12, undef) :: (11, undef) :: (10, .bool false) :: _) rfl ?_
   exact leaf_q (sub_out 9 _ rfl (by kernel_rfl) ⟨(congrArg Value.bool (by rw [decide_eq_false h5] <;> rfl)), trivial⟩)
 refine xm_next ?_
 refine cm_ret ?_
 exact xm_retT rfl (by kernel_rfl) (show _ = Value.bool _ from rfl) fun w1 c1 => ⟨(), rfl, hsub [] (by kernel_rfl) rfl w1 c1⟩
/-- tariff.usable -/
def m_tariff_usable (N : Nat) (p0 : ApiTariff) : Option (Bool) :=
 Option.bind (m_tariff_between N (0 : Int) p0.Base (100000 : Int)) fun r6 => callIf (r6 = true) (m_tariff_between N (0 : Int) p0.Empty (100000 : Int)) fun r8 => callIf ((r6 && r8) = true) (m_tariff_between N (0 : Int) p0.Kilo (100000 : Int)) fun r10 => callIf (((r6 && r8) && r10) = true) (m_tariff_between N (0 : Int) p0.Free (1000 : Int)) fun r12 => some ((((r6 && r8) && r10) && r12))
set_option maxRecDepth 20000 in
theorem m_tariff_usable_ok (N : Nat) (w0 : World) (p0 : ApiTariff)   (r : Bool) (hr : m_tariff_usable N p0 = some r) :
  Ret Tryz.prog 79 [.agg #[.int .i64 p0.From, .int .i64 p0.Base, .int .i64 p0.Empty, .int .i64 p0.Kilo, .int .i64 p0.Free]] w0 (fun (r : Bool) (_u : Unit) => .bool r) (fun (_r : Bool) (_u : Unit) => []) r := by
 refine calls_v (n := 21) r hr Tryz.func79 ?_
 unfold m_tariff_usable
 refine sr ?_
 refine lm_box 1 [.int .i64 _, .int .i64 _, .int .i64 _, .int .i64 _, .int .i64 _] (by kernel_rfl) rfl ?_
 intro b5
 refine la 1 ((2, .bool false) :: _) rfl ?_
 refine nn ?_
 refine cm_seq ?_
 refine cm_bind fun r6 h7 => ?_
 refine cm_callIf fun r8 h9 => ?_
 refine cm_callIf fun r10 h11 => ?_
 refine cm_callIf fun r12 h13 => ?_
 refine cm_cutE [(2, .bool (((r6 && r8) && r10) && r12))] ?_ ?_
 ·refine q_ 3 (fun _ _ => oF 1 1 rfl) ?_
  refine q_ 4 (fun _ c1 => oL (c1.cell 0 (u := .int .i64 _) rfl rfl)) ?_
  refine wq_callb 5 (by kernel_rfl) (fun w1 c1 => op_call (by kernel_rfl)) (fun w1 c1 => (m_tariff_between_ok N w1 (0 : Int) p0.Base (100000 : Int)  r6 h7).mono (fun _ _ ⟨_, hx, hu⟩ => ⟨hx, c1.call hu⟩)) (fun h14 => ?_) (fun h14 => ?_)
  ·refine qa 1 ((6, .bool true) :: _) rfl ?_
   refine q_ 7 (fun _ _ => oF 2 2 rfl) ?_
   refine q_ 8 (fun _ c1 => oL (c1.cell 0 (u := .int .i64 _) rfl rfl)) ?_
   refine wq_callb 9 (by kernel_rfl) (fun w1 c1 => op_call (by kernel_rfl)) (fun w1 c1 => (m_tariff_between_ok N w1 (0 : Int) p0.Empty (100000 : Int)  r8 (h9 (by rw [h14] <;> rfl))).mono (fun _ _ ⟨_, hx, hu⟩ => ⟨hx, c1.call hu⟩)) (fun h15 => ?_) (fun h15 => ?_)
   ·refine qa 2 ((11, .bool true) :: (10, .bool true) :: _) rfl ?_
    refine q_ 12 (fun _ _ => oF 3 3 rfl) ?_
    refine q_ 13 (fun _ c1 => oL (c1.cell 0 (u := .int .i64 _) rfl rfl)) ?_
    refine wq_callb 14 (by kernel_rfl) (fun w1 c1 => op_call (by kernel_rfl)) (fun w1 c1 => (m_tariff_between_ok N w1 (0 : Int) p0.Kilo (100000 : Int)  r10 (h11 (by rw [h14, h15] <;> rfl))).mono (fun _ _ ⟨_, hx, hu⟩ => ⟨hx, c1.call hu⟩)) (fun h16 => ?_) (fun h16 => ?_)
    ·refine qa 2 ((16, .bool true) :: (15, .bool true) :: _) rfl ?_
     refine q_ 17 (fun _ _ => oF 4 4 rfl) ?_
     refine q_ 18 (fun _ c1 => oL (c1.cell 0 (u := .int .i64 _) rfl rfl)) ?_
     refine wq_call 19 (by kernel_rfl) (fun w1 c1 => op_call (by kernel_rfl)) (fun w1 c1 => (m_tariff_between_ok N w1 (0 : Int) p0.Free (1000 : Int)  r12 (h13 (by rw [h14, h15, h16] <;> rfl))).mono (fun _ _ ⟨_, hx, hu⟩ => ⟨hx, c1.call hu⟩)) ?_
     refine qa 2 ((2, .bool _) :: (20, .bool _) :: _) rfl ?_
     exact leaf_q (sub_out 19 _ rfl (by kernel_rfl) ⟨(congrArg Value.bool (by rw [h14, h15, h16] <;> rfl)), trivial⟩)
    ·refine qa 7 ((2, .bool false) :: (20, .bool false) :: (19, undef) :: (18, undef) :: (17, undef) :: (16, .bool false) :: (15, .bool false) :: _) rfl ?_
     exact leaf_q (sub_out 19 _ rfl (by kernel_rfl) ⟨(congrArg Value.bool (by rw [h14, h15, h16] <;> rfl)), trivial⟩)
   ·refine qa 12 ((2, .bool false) :: (20, .bool false) :: (19, undef) :: (18, undef) :: (17, undef) :: (16, .bool false) :: (15, .bool false) :: (14, undef) :: (13, undef) :: (12, undef) :: (11, .bool false) :: (10, .bool false) :: _) rfl ?_
    exact leaf_q (sub_out 19 _ rfl (by kernel_rfl) ⟨(congrArg Value.bool (by rw [h14, h15] <;> rfl)), trivial⟩)
  ·refine qa 16 ((2, .bool false) :: (20, .bool false) :: (19, undef) :: (18, undef) :: (17, undef) :: (16, .bool false) :: (15, .bool false) :: (14, undef) :: (13, undef) :: (12, undef) :: (11, .bool false) :: (10, .bool false) :: (9, undef) :: (8, undef) :: (7, undef) :: (6, .bool false) :: _) rfl ?_
   exact leaf_q (sub_out 19 _ rfl (by kernel_rfl) ⟨(congrArg Value.bool (by rw [h14] <;> rfl)), trivial⟩)
 refine xm_next ?_
 refine cm_ret ?_
 exact xm_retT rfl (by kernel_rfl) (show _ = Value.bool _ from rfl) fun w1 c1 => ⟨(), rfl, hsub [] (by kernel_rfl) rfl w1 c1⟩
/-- tariff.Check -/
def m_tariff_Check (N : Nat) (p0 : (List ApiTariff)) : Option (Int) :=
 (if (List.length p0 : Int) = 0 then
  some ((10 : Int))
 else
  (if 8 < (List.length p0 : Int) then
   some ((8 : Int))
  else
   (andThen
    (loopM (fun (s69 : Int) =>
     (if s69 < (List.length p0 : Int) then
      ck ((0 : Int) ≤ s69 ∧ s69 < (List.length p0 : Int)) (
       Option.bind (m_tariff_between N (0 : Int) ((ix p0 s69).From) (36524 : Int)) fun r74 => callIf ((!(!r74)) = true) (m_tariff_usable N (ix p0 s69)) fun r76 => (if ((!r74) || (!r76)) = true then
        some (.done (.done ((1 : Int))))
       else
        ck (I64 (s69 + (1 : Int))) (
         some (.next (s69 + (1 : Int))))))
     else
      some (.done (.next ())))) N (0 : Int))
   fun (_s43 : Unit) =>
    (andThen
     (loopM (fun (s123 : Int) =>
      (if s123 < (List.length p0 : Int) then
       ck ((0 : Int) ≤ s123 ∧ s123 < (List.length p0 : Int)) (
        ck (I64 (s123 - (1 : Int))) (
         ck ((0 : Int) ≤ (s123 - (1 : Int)) ∧ (s123 - (1 : Int)) < (List.length p0 : Int)) (
          (if (ix p0 s123).From ≤ (ix p0 (s123 - (1 : Int))).From then
           some (.done (.done ((9 : Int))))
          else
           ck (I64 (s123 + (1 : Int))) (
            some (.next (s123 + (1 : Int))))))))
      else
       some (.done (.next ())))) N (1 : Int))
    fun (_s105 : Unit) =>
     some ((0 : Int))))))
set_option maxHeartbeats 2000000 in
set_option maxRecDepth 20000 in
theorem m_tariff_Check_ok (N : Nat) (w0 : World) (p0 : (List ApiTariff)) (A_p0 : Option Addr) (n_p0 c_p0 : Nat) (hr_p0 : RdE w0 5 encApiTariff A_p0 p0) (hz_p0 : SW A_p0 n_p0 c_p0 (List.length p0)) (r : Int) (hr : m_tariff_Check N p0 = some r) :
  Ret Tryz.prog 36 [.slice A_p0 n_p0 c_p0] w0 (fun (r : Int) (_u : Unit) => .int .i64 r) (fun (_r : Int) (_u : Unit) => []) r := by
 refine calls_v (n := 46) r hr Tryz.func36 ?_
 unfold m_tariff_Check
 refine sr ?_
 refine la 1 ((2, .int .i64 _) :: _) rfl ?_
 refine nn ?_
 refine cm_seq ?_
 refine sr ?_
 refine la 1 ((6, .slice _ _ _) :: _) rfl ?_
 refine v_ 7 (fun _ _ => op_lenN rfl (by kernel_rfl) hz_p0.2.2) ?_
 refine la 1 ((8, .bool _) :: _) rfl ?_
 refine nn ?_
 refine cm_cond (by kernel_rfl) rfl (fun h5 => ?_) (fun h5 => ?_)
 ·refine sr ?_
  refine la 1 ((2, .int .i64 _) :: _) rfl ?_
  refine nn ?_
  refine cm_ret ?_
  refine xm_thenR ?_
  exact xm_retT rfl (by kernel_rfl) (show _ = Value.int .i64 _ from rfl) fun w1 c1 => ⟨(), rfl, hsub [] (by kernel_rfl) rfl w1 c1⟩
 ·refine sk ?_
  refine cm_seq ?_
  refine sr ?_
  refine la 1 ((9, .slice _ _ _) :: _) rfl ?_
  refine v_ 10 (fun _ _ => op_lenN rfl (by kernel_rfl) hz_p0.2.2) ?_
  refine la 1 ((11, .bool _) :: _) rfl ?_
  refine nn ?_
  refine cm_cond (by kernel_rfl) rfl (fun h6 => ?_) (fun h6 => ?_)
  ·refine sr ?_
   refine la 1 ((2, .int .i64 _) :: _) rfl ?_
   refine nn ?_
   refine cm_ret ?_
   refine xm_thenR ?_
   exact xm_retT rfl (by kernel_rfl) (show _ = Value.int .i64 _ from rfl) fun w1 c1 => ⟨(), rfl, hsub [] (by kernel_rfl) rfl w1 c1⟩
  ·refine sk ?_
   refine cm_join (σ := Unit) (ξ := Unit) (fun s43 u44 => [(0, .slice A_p0 n_p0 c_p0)]) (fun s43 u44 => []) ?_ ?_
   ·refine sr ?_
    refine la 1 ((12, .slice _ _ _) :: _) rfl ?_
    refine v_ 13 (fun _ _ => op_lenN rfl (by kernel_rfl) hz_p0.2.2) ?_
    refine la 1 ((14, .int .i64 _) :: _) rfl ?_
    refine nn ?_
    refine cm_block ?_
    refine cm_loop (σ := Int) (ξ := Unit) (fun s69 u70 => [(0, .slice A_p0 n_p0 c_p0), (12, .slice A_p0 n_p0 c_p0), (13, .int .i64 (List.length p0 : Int)), (14, .int .i64 s69)]) (fun s69 u70 => []) () ?_ ?_ ?_
    ·exact sq
    ·exact sh []
    intro s69 u70
    refine sr ?_
    refine la 1 ((15, .bool _) :: _) rfl ?_
    refine nn ?_
    refine cm_seq ?_
    refine cm_cond (by kernel_rfl) rfl (fun h71 => ?_) (fun h71 => ?_)
    ·refine sk ?_
     refine cm_seq ?_
     refine cm_block ?_
     refine sr ?_
     refine lm_ck (fun h72 => ?_)
     refine v_ 16 (fun _ c1 => oI 5 rfl rfl ((hr_p0.old c1).addr h72.1 h72.2) hz_p0.2.2 h72) ?_
     refine v_ 17 (fun _ c1 => oR [.int .i64 ((ix p0 s69).From), .int .i64 ((ix p0 s69).Base), .int .i64 ((ix p0 s69).Empty), .int .i64 ((ix p0 s69).Kilo), .int .i64 ((ix p0 s69).Free)] ((hr_p0.old c1).row h72.1 h72.2)) ?_
     refine lm_alloc 4 [.int .i64 0, .int .i64 0, .int .i64 0, .int .i64 0, .int .i64 0] (v := .agg #[.int .i64 0, .int .i64 0, .int .i64 0, .int .i64 0, .int .i64 0]) (by kernel_rfl) (by kernel_rfl) rfl ?_
     intro b73
     refine lm_storeA 0 [.int .i64 _, .int .i64 _, .int .i64 _, .int .i64 _, .int .i64 _] [_, _, _, _, _] (H' := [blkE _ _ [_, _, _, _, _]]) (by kernel_rfl) rfl rfl (by kernel_rfl) rfl rfl (by kernel_rfl) rfl rfl ?_
     refine nn ?_
     refine cm_seq ?_
     refine cm_bind fun r74 h75 => ?_
     refine cm_callIf fun r76 h77 => ?_
     refine cm_cutE [(26, .bool ((!r74) || (!r76)))] ?_ ?_
     ·refine q_ 18 (fun _ _ => oF 0 0 rfl) ?_
      refine q_ 19 (fun _ c1 => oL (c1.cell 0 (u := .int .i64 _) rfl rfl)) ?_
      refine wq_callb 20 (by kernel_rfl) (fun w1 c1 => op_call (by kernel_rfl)) (fun w1 c1 => (m_tariff_between_ok N w1 (0 : Int) ((ix p0 s69).From) (36524 : Int)  r74 h75).mono (fun _ _ ⟨_, hx, hu⟩ => ⟨hx, c1.call hu⟩)) (fun h78 => ?_) (fun h78 => ?_)
      ·refine qa 2 ((22, .bool false) :: (21, .bool false) :: _) rfl ?_
       refine q_ 23 (fun _ c1 => oR [.int .i64 _, .int .i64 _, .int .i64 _, .int .i64 _, .int .i64 _] (c1.cells 0 rfl rfl)) ?_
       refine wq_call 24 (by kernel_rfl) (fun w1 c1 => op_call (by kernel_rfl)) (fun w1 c1 => (m_tariff_usable_ok N w1 (ix p0 s69)  r76 (h77 (by rw [h78] <;> rfl))).mono (fun _ _ ⟨_, hx, hu⟩ => ⟨hx, c1.call hu⟩)) ?_
       refine qa 2 ((26, .bool _) :: (25, .bool _) :: _) rfl ?_
       exact leaf_q (sub_out 9 _ rfl (by kernel_rfl) ⟨(congrArg Value.bool (by rw [h78] <;> rfl)), trivial⟩)
      ·refine qa 6 ((26, .bool true) :: (25, undef) :: (24, undef) :: (23, undef) :: (22, .bool true) :: (21, .bool true) :: _) rfl ?_
       exact leaf_q (sub_out 9 _ rfl (by kernel_rfl) ⟨(congrArg Value.bool (by rw [h78] <;> rfl)), trivial⟩)
     refine xm_next ?_
     refine cm_condB (by kernel_rfl) rfl (fun h79 => ?_) (fun h79 => ?_)
     ·refine sr ?_
      refine la 1 ((2, .int .i64 _) :: _) rfl ?_
      refine nn ?_
      refine cm_ret ?_
      refine xm_inR ?_
      refine xm_thenR ?_
      refine xm_lret ?_
      refine xm_inR ?_
      refine xm_lret ?_
      exact xm_retT rfl (by kernel_rfl) (show _ = Value.int .i64 _ from rfl) fun w1 c1 => ⟨(), rfl, hsub [] (by kernel_rfl) rfl w1 c1⟩
     ·refine cm_skip ?_
      refine xm_inN ?_
      refine xm_next ?_
      refine cm_region ?_
      refine lm_ck (fun h80 => ?_)
      refine v_ 27 (fun _ _ => op_add rfl rfl h80) ?_
      refine la 1 ((14, .int .i64 _) :: _) rfl ?_
      refine lm_nil ?_
      exact xm_lnext () sq (sh [])
    ·refine cm_exit ?_
     refine xm_thenE ?_
     refine xm_lexit ?_
     refine xm_here ?_
     exact xm_lnext () sq (sh [])
   intro s43 u44
   refine cm_join (σ := Unit) (ξ := Unit) (fun s105 u106 => []) (fun s105 u106 => []) ?_ ?_
   ·refine sr ?_
    refine la 1 ((5, .int .i64 _) :: _) rfl ?_
    refine nn ?_
    refine cm_block ?_
    refine cm_loop (σ := Int) (ξ := Unit) (fun s123 u124 => [(0, .slice A_p0 n_p0 c_p0), (5, .int .i64 s123)]) (fun s123 u124 => []) () ?_ ?_ ?_
    ·exact sq
    ·exact sh []
    intro s123 u124
    refine cm_seq ?_
    refine sr ?_
    refine la 2 ((29, .slice _ _ _) :: (28, .int .i64 _) :: _) rfl ?_
    refine v_ 30 (fun _ _ => op_lenN rfl (by kernel_rfl) hz_p0.2.2) ?_
    refine la 1 ((31, .bool _) :: _) rfl ?_
    refine nn ?_
    refine cm_cond (by kernel_rfl) rfl (fun h125 => ?_) (fun h125 => ?_)
    ·refine sk ?_
     refine cm_seq ?_
     refine cm_block ?_
     refine cm_seq ?_
     refine cm_ck (fun h126 => ?_)
     refine cm_ck (fun h127 => ?_)
     refine cm_ck (fun h128 => ?_)
     refine cm_drawn [(45, .bool (decide ((ix p0 s123).From ≤ (ix p0 (s123 - (1 : Int))).From)))] (by kernel_rfl) (by kernel_rfl) ?_ ?_
     ·refine qa 2 ((35, .int .i64 _) :: (34, .slice _ _ _) :: _) rfl ?_
      refine q_ 36 (fun _ c1 => oI 5 rfl rfl ((hr_p0.old c1).addr h126.1 h126.2) hz_p0.2.2 h126) ?_
      refine q_ 37 (fun _ _ => op_field0 rfl (by kernel_rfl)) ?_
      refine q_ 38 (fun _ c1 => oL (v := .int .i64 ((ix p0 s123).From)) ((hr_p0.old c1).cell0 h126.1 h126.2 rfl)) ?_
      refine qa 2 ((40, .int .i64 _) :: (39, .slice _ _ _) :: _) rfl ?_
      refine q_ 41 (fun _ _ => op_sub rfl rfl h127) ?_
      refine q_ 42 (fun _ c1 => oI 5 rfl rfl ((hr_p0.old c1).addr h128.1 h128.2) hz_p0.2.2 h128) ?_
      refine q_ 43 (fun _ _ => op_field0 rfl (by kernel_rfl)) ?_
      refine q_ 44 (fun _ c1 => oL (v := .int .i64 ((ix p0 (s123 - (1 : Int))).From)) ((hr_p0.old c1).cell0 h128.1 h128.2 rfl)) ?_
      refine qa 1 ((45, .bool _) :: _) rfl ?_
      exact lq 12
     refine xm_next ?_
     refine cm_cond (by kernel_rfl) rfl (fun h129 => ?_) (fun h129 => ?_)
     ·refine sr ?_
      refine la 1 ((2, .int .i64 _) :: _) rfl ?_
      refine nn ?_
      refine cm_ret ?_
      refine xm_inR ?_
      refine xm_thenR ?_
      refine xm_lret ?_
      refine xm_inR ?_
      refine xm_lret ?_
      exact xm_retT rfl (by kernel_rfl) (show _ = Value.int .i64 _ from rfl) fun w1 c1 => ⟨(), rfl, hsub [] (by kernel_rfl) rfl w1 c1⟩
     ·refine cm_skip ?_
      refine xm_inN ?_
      refine xm_next ?_
      refine cm_region ?_
      refine la 1 ((32, .int .i64 _) :: _) rfl ?_
      refine lm_ck (fun h130 => ?_)
      refine v_ 33 (fun _ _ => op_add rfl rfl h130) ?_
      refine la 1 ((5, .int .i64 _) :: _) rfl ?_
      refine lm_nil ?_
      exact xm_lnext () sq (sh [])
    ·refine cm_exit ?_
     refine xm_thenE ?_
     refine xm_lexit ?_
     refine xm_here ?_
     exact xm_lnext () sub_nil (sh [])
   intro s105 u106
   refine sr ?_
   refine la 1 ((2, .int .i64 _) :: _) rfl ?_
   refine nn ?_
   refine cm_ret ?_
   exact xm_retT rfl (by kernel_rfl) (show _ = Value.int .i64 _ from rfl) fun w1 c1 => ⟨(), rfl, hsub [] (by kernel_rfl) rfl w1 c1⟩
/-- tariff.At -/
def m_tariff_At (N : Nat) (p0 : (List ApiTariff)) (p1 : Int) : Option (Int × Int) :=
 Option.bind (m_tariff_Check N p0) fun r5 => (if r5 ≠ 0 then
  some (((0 : Int), r5))
 else
  Option.bind (m_tariff_between N (0 : Int) p1 (36524 : Int)) fun r8 => (if (!r8) = true then
   some (((0 : Int), (1 : Int)))
  else
   (andThen
    (ck (I64 ((List.length p0 : Int) - (1 : Int))) (
     (loopM (fun (s45 : Int) =>
      (if 0 ≤ s45 then
       ck ((0 : Int) ≤ s45 ∧ s45 < (List.length p0 : Int)) (
        (if (ix p0 s45).From ≤ p1 then
         some (.done (.done ((s45, (0 : Int)))))
        else
         ck (I64 (s45 - (1 : Int))) (
          some (.next (s45 - (1 : Int))))))
      else
       some (.done (.next ())))) N ((List.length p0 : Int) - (1 : Int)))))
   fun (_s30 : Unit) =>
    some (((0 : Int), (7 : Int))))))
set_option maxHeartbeats 2000000 in
set_option maxRecDepth 20000 in
theorem m_tariff_At_ok (N : Nat) (w0 : World) (p0 : (List ApiTariff)) (p1 : Int) (A_p0 : Option Addr) (n_p0 c_p0 : Nat) (hr_p0 : RdE w0 5 encApiTariff A_p0 p0) (hz_p0 : SW A_p0 n_p0 c_p0 (List.length p0)) (r : Int × Int) (hr : m_tariff_At N p0 p1 = some r) :
  Ret Tryz.prog 27 [.slice A_p0 n_p0 c_p0, .int .i64 p1] w0 (fun (r : Int × Int) (_u : Unit) => .tuple #[.int .i64 r.1, .int .i64 r.2]) (fun (_r : Int × Int) (_u : Unit) => []) r := by
 refine calls_v (n := 31) r hr Tryz.func27 ?_
 unfold m_tariff_At
 refine sr ?_
 refine la 2 ((5, .int .i64 _) :: (4, .int .i64 _) :: _) rfl ?_
 refine nn ?_
 refine cm_seq ?_
 refine sr ?_
 refine la 1 ((8, .slice _ _ _) :: _) rfl ?_
 refine lm_call 9 (V := (fun (r : Int) (_u : Unit) => .int .i64 r)) (HR := (fun (_r : Int) (_u : Unit) => [])) (by kernel_rfl) (fun w1 => op_call (by kernel_rfl)) (fun r1 hr1 w1 c1 => m_tariff_Check_ok N w1 p0 A_p0 n_p0 c_p0 (hr_p0.old c1) hz_p0 r1 hr1) ?_
 intro r5 u6
 refine la 1 ((6, .int .i64 _) :: _) rfl ?_
 refine nn ?_
 refine sr ?_
 refine la 2 ((11, .bool _) :: (10, .int .i64 _) :: _) rfl ?_
 refine nn ?_
 refine cm_cond (by kernel_rfl) rfl (fun h7 => ?_) (fun h7 => ?_)
 ·refine sr ?_
  refine la 3 ((5, .int .i64 _) :: (4, .int .i64 _) :: (12, .int .i64 _) :: _) rfl ?_
  refine nn ?_
  refine cm_ret ?_
  refine xm_thenR ?_
  exact xm_retTT rfl (by kernel_rfl) (show _ = Value.int .i64 _ from rfl) (by kernel_rfl) (show _ = Value.int .i64 _ from rfl) fun w1 c1 => ⟨(), rfl, hsub [] (by kernel_rfl) rfl w1 c1⟩
 ·refine sk ?_
  refine cm_seq ?_
  refine sr ?_
  refine la 1 ((13, .int .i64 _) :: _) rfl ?_
  refine lm_call 14 (V := (fun (r : Bool) (_u : Unit) => .bool r)) (HR := (fun (_r : Bool) (_u : Unit) => [])) (by kernel_rfl) (fun w1 => op_call (by kernel_rfl)) (fun r1 hr1 w1 c1 => m_tariff_between_ok N w1 (0 : Int) p1 (36524 : Int)  r1 hr1) ?_
  intro r8 u9
  refine la 1 ((15, .bool _) :: _) rfl ?_
  refine nn ?_
  refine cm_condB (by kernel_rfl) rfl (fun h10 => ?_) (fun h10 => ?_)
  ·refine sr ?_
   refine la 2 ((5, .int .i64 _) :: (4, .int .i64 _) :: _) rfl ?_
   refine nn ?_
   refine cm_ret ?_
   refine xm_thenR ?_
   exact xm_retTT rfl (by kernel_rfl) (show _ = Value.int .i64 _ from rfl) (by kernel_rfl) (show _ = Value.int .i64 _ from rfl) fun w1 c1 => ⟨(), rfl, hsub [] (by kernel_rfl) rfl w1 c1⟩
  ·refine sk ?_
   refine cm_join (σ := Unit) (ξ := Unit) (fun s30 u31 => []) (fun s30 u31 => []) ?_ ?_
   ·refine sr ?_
    refine la 1 ((16, .slice _ _ _) :: _) rfl ?_
    refine v_ 17 (fun _ _ => op_lenN rfl (by kernel_rfl) hz_p0.2.2) ?_
    refine lm_ck (fun h32 => ?_)
    refine v_ 18 (fun _ _ => op_sub rfl rfl h32) ?_
    refine la 1 ((7, .int .i64 _) :: _) rfl ?_
    refine nn ?_
    refine cm_block ?_
    refine cm_loop (σ := Int) (ξ := Unit) (fun s45 u46 => [(0, .slice A_p0 n_p0 c_p0), (1, .int .i64 p1), (7, .int .i64 s45)]) (fun s45 u46 => []) () ?_ ?_ ?_
    ·exact sq
    ·exact sh []
    intro s45 u46
    refine cm_seq ?_
    refine sr ?_
    refine la 2 ((20, .bool _) :: (19, .int .i64 _) :: _) rfl ?_
    refine nn ?_
    refine cm_cond (by kernel_rfl) rfl (fun h47 => ?_) (fun h47 => ?_)
    ·refine sk ?_
     refine cm_seq ?_
     refine cm_block ?_
     refine sr ?_
     refine la 2 ((24, .int .i64 _) :: (23, .slice _ _ _) :: _) rfl ?_
     refine lm_ck (fun h48 => ?_)
     refine v_ 25 (fun _ c1 => oI 5 rfl rfl ((hr_p0.old c1).addr h48.1 h48.2) hz_p0.2.2 h48) ?_
     refine v_ 26 (fun _ _ => op_field0 rfl (by kernel_rfl)) ?_
     refine v_ 27 (fun _ c1 => oL (v := .int .i64 ((ix p0 s45).From)) ((hr_p0.old c1).cell0 h48.1 h48.2 rfl)) ?_
     refine la 2 ((29, .bool _) :: (28, .int .i64 _) :: _) rfl ?_
     refine nn ?_
     refine cm_cond (by kernel_rfl) rfl (fun h49 => ?_) (fun h49 => ?_)
     ·refine sr ?_
      refine la 3 ((5, .int .i64 _) :: (4, .int .i64 _) :: (30, .int .i64 _) :: _) rfl ?_
      refine nn ?_
      refine cm_ret ?_
      refine xm_inR ?_
      refine xm_thenR ?_
      refine xm_lret ?_
      refine xm_inR ?_
      refine xm_lret ?_
      exact xm_retTT rfl (by kernel_rfl) (show _ = Value.int .i64 _ from rfl) (by kernel_rfl) (show _ = Value.int .i64 _ from rfl) fun w1 c1 => ⟨(), rfl, hsub [] (by kernel_rfl) rfl w1 c1⟩
     ·refine cm_skip ?_
      refine xm_inN ?_
      refine xm_next ?_
      refine cm_region ?_
      refine la 1 ((21, .int .i64 _) :: _) rfl ?_
      refine lm_ck (fun h50 => ?_)
      refine v_ 22 (fun _ _ => op_sub rfl rfl h50) ?_
      refine la 1 ((7, .int .i64 _) :: _) rfl ?_
      refine lm_nil ?_
      exact xm_lnext () sq (sh [])
    ·refine cm_exit ?_
     refine xm_thenE ?_
     refine xm_lexit ?_
     refine xm_here ?_
     exact xm_lnext () sub_nil (sh [])
   intro s30 u31
   refine sr ?_
   refine la 2 ((5, .int .i64 _) :: (4, .int .i64 _) :: _) rfl ?_
   refine nn ?_
   refine cm_ret ?_
   exact xm_retTT rfl (by kernel_rfl) (show _ = Value.int .i64 _ from rfl) (by kernel_rfl) (show _ = Value.int .i64 _ from rfl) fun w1 c1 => ⟨(), rfl, hsub [] (by kernel_rfl) rfl w1 c1⟩
/-- tariff.weighed -/
def m_tariff_weighed (_N : Nat) (p0 : ApiSpan) : Option (Bool) :=
 some ((((decide (0 ≤ p0.Lo)) && (decide (p0.Lo ≤ p0.Hi))) && (decide (p0.Hi ≤ 1073741824))))
set_option maxRecDepth 20000 in
theorem m_tariff_weighed_ok (N : Nat) (w0 : World) (p0 : ApiSpan)   (r : Bool) (hr : m_tariff_weighed N p0 = some r) :
  Ret Tryz.prog 100 [.agg #[.int .i64 p0.Lo, .int .i64 p0.Hi]] w0 (fun (r : Bool) (_u : Unit) => .bool r) (fun (_r : Bool) (_u : Unit) => []) r := by
 refine calls_v (n := 18) r hr Tryz.func100 ?_
 unfold m_tariff_weighed
 refine sr ?_
 refine lm_box 1 [.int .i64 _, .int .i64 _] (by kernel_rfl) rfl ?_
 intro b5
 refine la 1 ((2, .bool false) :: _) rfl ?_
 refine nn ?_
 refine cm_seq ?_
 refine cm_cutE [(2, .bool (((decide (0 ≤ p0.Lo)) && (decide (p0.Lo ≤ p0.Hi))) && (decide (p0.Hi ≤ 1073741824))))] ?_ ?_
 ·refine q_ 3 (fun _ _ => oF 0 0 rfl) ?_
  refine q_ 4 (fun _ c1 => oL (c1.cell 0 (u := .int .i64 _) rfl rfl)) ?_
  refine qd 5 (fun _ _ => op_leq rfl rfl) (fun h6 => ?_) (fun h6 => ?_)
  ·refine qa 1 ((6, .bool true) :: _) rfl ?_
   refine q_ 7 (fun _ _ => oF 0 0 rfl) ?_
   refine q_ 8 (fun _ c1 => oL (c1.cell 0 (u := .int .i64 _) rfl rfl)) ?_
   refine q_ 9 (fun _ _ => oF 1 1 rfl) ?_
   refine q_ 10 (fun _ c1 => oL (c1.cell 0 (u := .int .i64 _) rfl rfl)) ?_
   refine qd 11 (fun _ _ => op_leq rfl rfl) (fun h7 => ?_) (fun h7 => ?_)
   ·refine qa 2 ((13, .bool true) :: (12, .bool true) :: _) rfl ?_
    refine q_ 14 (fun _ _ => oF 1 1 rfl) ?_
    refine q_ 15 (fun _ c1 => oL (c1.cell 0 (u := .int .i64 _) rfl rfl)) ?_
    refine qa 3 ((2, .bool _) :: (17, .bool _) :: (16, .bool _) :: _) rfl ?_
    exact leaf_q (sub_out 16 _ rfl (by kernel_rfl) ⟨(congrArg Value.bool (by rw [decide_eq_true h6, decide_eq_true h7] <;> rfl)), trivial⟩)
   ·refine qa 7 ((2, .bool false) :: (17, .bool false) :: (16, undef) :: (15, undef) :: (14, undef) :: (13, .bool false) :: (12, .bool false) :: _) rfl ?_
    exact leaf_q (sub_out 16 _ rfl (by kernel_rfl) ⟨(congrArg Value.bool (by rw [decide_eq_true h6, decide_eq_false h7] <;> rfl)), trivial⟩)
  ·refine qa 13 ((2, .bool false) :: (17, .bool false) :: (16, undef) :: (15, undef) :: (14, undef) :: (13, .bool false) :: (12, .bool false) :: (11, undef) :: (10, undef) :: (9, undef) :: (8, undef) :: (7, undef) :: (6, .bool false) :: _) rfl ?_
   exact leaf_q (sub_out 16 _ rfl (by kernel_rfl) ⟨(congrArg Value.bool (by rw [decide_eq_false h6] <;> rfl)), trivial⟩)
 refine xm_next ?_
 refine cm_ret ?_
 exact xm_retT rfl (by kernel_rfl) (show _ = Value.bool _ from rfl) fun w1 c1 => ⟨(), rfl, hsub [] (by kernel_rfl) rfl w1 c1⟩
/-- tariff.Weight -/
def m_tariff_Weight (N : Nat) (p0 : ApiTariff) (p1 : ApiSpan) : Option (Int × Int) :=
 Option.bind (m_tariff_usable N p0) fun r7 => callIf ((!(!r7)) = true) (m_tariff_weighed N p1) fun r9 => (if ((!r7) || (!r9)) = true then
  some (((0 : Int), (1 : Int)))
 else
  ck (I64 p1.Lo) (
   ck (I64 ((Int.tdiv p1.Lo 1000) - p0.Free)) (
    some (((max (0 : Int) ((Int.tdiv p1.Lo 1000) - p0.Free)), (0 : Int))))))
set_option maxRecDepth 20000 in
theorem m_tariff_Weight_ok (N : Nat) (w0 : World) (p0 : ApiTariff) (p1 : ApiSpan)   (r : Int × Int) (hr : m_tariff_Weight N p0 p1 = some r) :
  Ret Tryz.prog 70 [.agg #[.int .i64 p0.From, .int .i64 p0.Base, .int .i64 p0.Empty, .int .i64 p0.Kilo, .int .i64 p0.Free], .agg #[.int .i64 p1.Lo, .int .i64 p1.Hi]] w0 (fun (r : Int × Int) (_u : Unit) => .tuple #[.int .i64 r.1, .int .i64 r.2]) (fun (_r : Int × Int) (_u : Unit) => []) r := by
 refine calls_v (n := 21) r hr Tryz.func70 ?_
 unfold m_tariff_Weight
 refine sr ?_
 refine lm_box 2 [.int .i64 _, .int .i64 _, .int .i64 _, .int .i64 _, .int .i64 _] (by kernel_rfl) rfl ?_
 intro b5
 refine lm_box 3 [.int .i64 _, .int .i64 _] (by kernel_rfl) rfl ?_
 intro b6
 refine la 2 ((5, .int .i64 _) :: (4, .int .i64 _) :: _) rfl ?_
 refine nn ?_
 refine cm_seq ?_
 refine cm_seq ?_
 refine cm_bind fun r7 h8 => ?_
 refine cm_callIf fun r9 h10 => ?_
 refine cm_cutE [(13, .bool ((!r7) || (!r9)))] ?_ ?_
 ·refine q_ 6 (fun _ c1 => oR [.int .i64 _, .int .i64 _, .int .i64 _, .int .i64 _, .int .i64 _] (c1.cells 1 rfl rfl)) ?_
  refine wq_callb 7 (by kernel_rfl) (fun w1 c1 => op_call (by kernel_rfl)) (fun w1 c1 => (m_tariff_usable_ok N w1 p0  r7 h8).mono (fun _ _ ⟨_, hx, hu⟩ => ⟨hx, c1.call hu⟩)) (fun h11 => ?_) (fun h11 => ?_)
  ·refine qa 2 ((9, .bool false) :: (8, .bool false) :: _) rfl ?_
   refine q_ 10 (fun _ c1 => oR [.int .i64 _, .int .i64 _] (c1.cells 0 rfl rfl)) ?_
   refine wq_call 11 (by kernel_rfl) (fun w1 c1 => op_call (by kernel_rfl)) (fun w1 c1 => (m_tariff_weighed_ok N w1 p1  r9 (h10 (by rw [h11] <;> rfl))).mono (fun _ _ ⟨_, hx, hu⟩ => ⟨hx, c1.call hu⟩)) ?_
   refine qa 2 ((13, .bool _) :: (12, .bool _) :: _) rfl ?_
   exact leaf_q (sub_out 8 _ rfl (by kernel_rfl) ⟨(congrArg Value.bool (by rw [h11] <;> rfl)), trivial⟩)
  ·refine qa 6 ((13, .bool true) :: (12, undef) :: (11, undef) :: (10, undef) :: (9, .bool true) :: (8, .bool true) :: _) rfl ?_
   exact leaf_q (sub_out 8 _ rfl (by kernel_rfl) ⟨(congrArg Value.bool (by rw [h11] <;> rfl)), trivial⟩)
 refine xm_next ?_
 refine cm_condB (by kernel_rfl) rfl (fun h12 => ?_) (fun h12 => ?_)
 ·refine sr ?_
  refine la 2 ((5, .int .i64 _) :: (4, .int .i64 _) :: _) rfl ?_
  refine nn ?_
  refine cm_ret ?_
  refine xm_thenR ?_
  exact xm_retTT rfl (by kernel_rfl) (show _ = Value.int .i64 _ from rfl) (by kernel_rfl) (show _ = Value.int .i64 _ from rfl) fun w1 c1 => ⟨(), rfl, hsub [] (by kernel_rfl) rfl w1 c1⟩
 ·refine sk ?_
  refine sr ?_
  refine v_ 14 (fun _ _ => oF 0 0 rfl) ?_
  refine v_ 15 (fun _ c1 => oL (c1.cell 0 (u := .int .i64 _) rfl rfl)) ?_
  refine lm_ck (fun h13 => ?_)
  refine v_ 16 (fun _ _ => op_quoK rfl rfl (by kernel_rfl) h13) ?_
  refine v_ 17 (fun _ _ => oF 4 4 rfl) ?_
  refine v_ 18 (fun _ c1 => oL (c1.cell 1 (u := .int .i64 _) rfl rfl)) ?_
  refine lm_ck (fun h14 => ?_)
  refine v_ 19 (fun _ _ => op_sub rfl rfl h14) ?_
  refine v_ 20 (fun _ _ => op_max rfl rfl) ?_
  refine la 2 ((5, .int .i64 _) :: (4, .int .i64 _) :: _) rfl ?_
  refine nn ?_
  refine cm_ret ?_
  exact xm_retTT rfl (by kernel_rfl) (show _ = Value.int .i64 _ from rfl) (by kernel_rfl) (show _ = Value.int .i64 _ from rfl) fun w1 c1 => ⟨(), rfl, hsub [] (by kernel_rfl) rfl w1 c1⟩
/-- tariff.priced -/
def m_tariff_priced (_N : Nat) (p0 : Int) : Option (Int) :=
 some (p0)
set_option maxRecDepth 20000 in
theorem m_tariff_priced_ok (N : Nat) (w0 w : World) (F : List HE) (p0 : Int)   (hw : Hs w0 ([] ++ [packE w0.heap.size F]) w) (r : Int) (hr : m_tariff_priced N p0 = some r) :
  Calls Tryz.prog 62 [.int .i64 p0].toArray w fun x w1 => ∃ u, x = .returned ((fun (_r : Int) (u : Nat) => (.func (.func 94) #[] #[.pointer (some ⟨u, 0, none⟩)] : Value)) r u) ∧ Hs w0 ((fun (r : Int) (u : Nat) => [blkE u 3 [.int .i64 r]]) r u ++ [packE w0.heap.size F]) w1 := by
 refine calls_cmH (n := 4) (R := fun r x w1 => ∃ u, x = .returned ((fun (_r : Int) (u : Nat) => (.func (.func 94) #[] #[.pointer (some ⟨u, 0, none⟩)] : Value)) r u) ∧ Hs w0 ((fun (r : Int) (u : Nat) => [blkE u 3 [.int .i64 r]]) r u ++ [packE w0.heap.size F]) w1) Tryz.func62 rfl rfl (Nat.le_of_ble_eq_true rfl) ?_ hw r hr
 unfold m_tariff_priced
 refine sr ?_
 refine lm_box 1 [.int .i64 _] (by kernel_rfl) rfl ?_
 intro b6
 refine la 1 ((2, .nilFunc) :: _) rfl ?_
 refine nn ?_
 refine sr ?_
 refine v_ 3 (fun _ _ => op_makeFuncC [.pointer (some ⟨_, _, _⟩)] rfl) ?_
 refine la 1 ((2, .func _ _ _) :: _) rfl ?_
 refine nn ?_
 refine cm_ret ?_
 exact xm_retT rfl (by kernel_rfl) (show _ = Value.func _ _ _ from rfl) fun w1 c1 => ⟨b6, rfl, hsub [0, 1] (by kernel_rfl) rfl w1 c1⟩
/-- tariff.priced$1 -/
def m_tariff_priced_1 (_N : Nat) (p0 : Int) (p1 : Int) (p2 : Int) (q0 : Int) : Option (ApiItem) :=
 ck (I64 (p1 * p2)) (
  some ((ApiItem.mk q0 p0 p1 p2 (p1 * p2))))
set_option maxRecDepth 20000 in
theorem m_tariff_priced_1_ok (N : Nat) (w0 : World) (p0 : Int) (p1 : Int) (p2 : Int) (q0 : Int) (b_q0 : Nat) (hb_q0 : Blk w0 b_q0 3 [.int .i64 q0]) (r : ApiItem) (hr : m_tariff_priced_1 N p0 p1 p2 q0 = some r) :
  Ret Tryz.prog 94 [.int .i64 p0, .int .i64 p1, .int .i64 p2, .pointer (some ⟨b_q0, 0, none⟩)] w0 (fun (r : ApiItem) (_u : Unit) => .agg #[.int .i64 r.Kind, .int .i64 r.Ref, .int .i64 r.Count, .int .i64 r.Price, .int .i64 r.Amount]) (fun (_r : ApiItem) (_u : Unit) => []) r := by
 refine calls_v (n := 16) r hr Tryz.func94 ?_
 unfold m_tariff_priced_1
 refine sr ?_
 refine lm_alloc 7 [.int .i64 0, .int .i64 0, .int .i64 0, .int .i64 0, .int .i64 0] (v := .agg #[.int .i64 0, .int .i64 0, .int .i64 0, .int .i64 0, .int .i64 0]) (by kernel_rfl) (by kernel_rfl) rfl ?_
 intro b5
 refine nn ?_
 refine sr ?_
 refine v_ 8 (fun _ c1 => oL (c1.ocell (hb_q0.at_ 0 (u := .int .i64 _) rfl))) ?_
 refine la 5 ((13, .int .i64 _) :: (12, .int .i64 _) :: (11, .int .i64 _) :: (10, .int .i64 _) :: (9, .int .i64 _) :: _) rfl ?_
 refine lm_ck (fun h6 => ?_)
 refine v_ 14 (fun _ _ => op_mul rfl rfl h6) ?_
 refine v_ 15 (fun _ _ => op_build (z := [.int .i64 0, .int .i64 0, .int .i64 0, .int .i64 0, .int .i64 0]) (tab := [(0, 1), (1, 1), (2, 1), (3, 1), (4, 1)]) (cs := [.int .i64 _, .int .i64 _, .int .i64 _, .int .i64 _, .int .i64 _]) [(0, [.int .i64 _]), (1, [.int .i64 _]), (2, [.int .i64 _]), (3, [.int .i64 _]), (4, [.int .i64 _])] (by kernel_rfl) (by kernel_rfl) (fillOk_cons rfl rfl rfl (fillOk_cons rfl rfl rfl (fillOk_cons rfl rfl rfl (fillOk_cons rfl rfl rfl (fillOk_cons rfl rfl rfl fillOk_nil))))) rfl) ?_
 refine lm_storeA 0 [.int .i64 _, .int .i64 _, .int .i64 _, .int .i64 _, .int .i64 _] [_, _, _, _, _] (H' := [blkE _ _ [_, _, _, _, _]]) (by kernel_rfl) rfl rfl (by kernel_rfl) rfl rfl (by kernel_rfl) rfl rfl ?_
 refine nn ?_
 refine cm_ret ?_
 exact xm_retC rfl (by kernel_rfl) (show _ = Value.pointer (some ⟨_, 0, none⟩) from rfl) (by kernel_rfl) (fun w1 c1 => c1.cells 0 (ds := [.int .i64 _, .int .i64 _, .int .i64 _, .int .i64 _, .int .i64 _]) rfl rfl) fun w1 c1 => ⟨(), rfl, hsub [] (by kernel_rfl) rfl w1 c1⟩
/-- tariff.Items -/
def m_tariff_Items (N : Nat) (p0 : ApiTariff) (p1 : ApiEmptying) : Option ((List ApiItem) × Int) :=
 Option.bind (m_tariff_Weight N p0 p1.Mass) fun r7 => callIf ((!(decide (r7.2 ≠ 0))) = true) (m_tariff_between N (1 : Int) p1.ID (1000000 : Int)) fun r9 => (if ((decide (r7.2 ≠ 0)) || (!r9)) = true then
  some ((([] : List ApiItem), (1 : Int)))
 else
  Option.bind (m_tariff_priced N (2 : Int)) fun r13 => Option.bind (m_tariff_priced_1 N p1.ID (1 : Int) p0.Empty r13) fun r15 => (andThen
   (if 0 < r7.1 then
    Option.bind (m_tariff_priced N (3 : Int)) fun r109 => Option.bind (m_tariff_priced_1 N p1.ID r7.1 p0.Kilo r109) fun r111 => ck ((List.length ([r15]) + List.length ([r111])) * 40 ≤ 140737488355328) (
     some (.next (([r15]) ++ ([r111]))))
   else
    some (.next ([r15])))
  fun (s106 : (List ApiItem)) =>
   some ((s106, (0 : Int)))))
set_option maxHeartbeats 2000000 in
set_option maxRecDepth 20000 in
theorem m_tariff_Items_ok (N : Nat) (w0 : World) (p0 : ApiTariff) (p1 : ApiEmptying)   (r : (List ApiItem) × Int) (hr : m_tariff_Items N p0 p1 = some r) :
  Ret Tryz.prog 28 [.agg #[.int .i64 p0.From, .int .i64 p0.Base, .int .i64 p0.Empty, .int .i64 p0.Kilo, .int .i64 p0.Free], .agg #[.int .i64 p1.ID, .int .i64 p1.Container, .int .i64 p1.Vehicle, .int .i64 p1.At, .int .i64 p1.Mass.Lo, .int .i64 p1.Mass.Hi, .bool p1.Void]] w0 (fun (r : (List ApiItem) × Int) (u : (Option Addr) × Nat × Nat) => .tuple #[.slice u.1 u.2.1 u.2.2, .int .i64 r.2]) (fun (r : (List ApiItem) × Int) (u : (Option Addr) × Nat × Nat) => [ownE 66 5 encApiItem u.1 u.2.1 u.2.2 r.1]) r := by
 refine calls_v (n := 44) r hr Tryz.func28 ?_
 unfold m_tariff_Items
 refine sr ?_
 refine lm_box 2 [.int .i64 _, .int .i64 _, .int .i64 _, .int .i64 _, .int .i64 _] (by kernel_rfl) rfl ?_
 intro b5
 refine lm_box 3 [.int .i64 _, .int .i64 _, .int .i64 _, .int .i64 _, .int .i64 _, .int .i64 _, .bool _] (by kernel_rfl) rfl ?_
 intro b6
 refine la 2 ((5, .int .i64 _) :: (4, .slice _ _ _) :: _) rfl ?_
 refine nn ?_
 refine sr ?_
 refine v_ 10 (fun _ c1 => oR [.int .i64 _, .int .i64 _, .int .i64 _, .int .i64 _, .int .i64 _] (c1.cells 1 rfl rfl)) ?_
 refine v_ 11 (fun _ _ => oF 4 4 rfl) ?_
 refine v_ 12 (fun _ c1 => oR [.int .i64 _, .int .i64 _] (c1.cells 0 rfl rfl)) ?_
 refine lm_call 13 (V := (fun (r : Int × Int) (_u : Unit) => .tuple #[.int .i64 r.1, .int .i64 r.2])) (HR := (fun (_r : Int × Int) (_u : Unit) => [])) (by kernel_rfl) (fun w1 => op_call (by kernel_rfl)) (fun r1 hr1 w1 c1 => m_tariff_Weight_ok N w1 p0 p1.Mass  r1 hr1) ?_
 intro r7 u8
 refine la 5 ((7, .int .i64 _) :: (6, .int .i64 _) :: (15, .int .i64 _) :: (14, .int .i64 _) :: (9, .tuple _) :: _) rfl ?_
 refine nn ?_
 refine cm_seq ?_
 refine cm_seq ?_
 refine cm_callIf fun r9 h10 => ?_
 refine cm_cutE [(23, .bool ((decide (r7.2 ≠ 0)) || (!r9)))] ?_ ?_
 ·refine qa 1 ((16, .int .i64 _) :: _) rfl ?_
  refine qd 17 (fun _ _ => op_neq rfl rfl) (fun h11 => ?_) (fun h11 => ?_)
  ·refine qa 6 ((23, .bool true) :: (22, undef) :: (21, undef) :: (20, undef) :: (19, undef) :: (18, .bool true) :: _) rfl ?_
   exact leaf_q (sub_out 8 _ rfl (by kernel_rfl) ⟨(congrArg Value.bool (by rw [decide_eq_true h11] <;> rfl)), trivial⟩)
  ·refine qa 1 ((18, .bool false) :: _) rfl ?_
   refine q_ 19 (fun _ _ => oF 0 0 rfl) ?_
   refine q_ 20 (fun _ c1 => oL (c1.cell 0 (u := .int .i64 _) rfl rfl)) ?_
   refine wq_call 21 (by kernel_rfl) (fun w1 c1 => op_call (by kernel_rfl)) (fun w1 c1 => (m_tariff_between_ok N w1 (1 : Int) p1.ID (1000000 : Int)  r9 (h10 (by rw [decide_eq_false h11] <;> rfl))).mono (fun _ _ ⟨_, hx, hu⟩ => ⟨hx, c1.call hu⟩)) ?_
   refine qa 2 ((23, .bool _) :: (22, .bool _) :: _) rfl ?_
   exact leaf_q (sub_out 8 _ rfl (by kernel_rfl) ⟨(congrArg Value.bool (by rw [decide_eq_false h11] <;> rfl)), trivial⟩)
 refine xm_next ?_
 refine cm_condB (by kernel_rfl) rfl (fun h12 => ?_) (fun h12 => ?_)
 ·refine sr ?_
  refine la 2 ((5, .int .i64 _) :: (4, .slice _ _ _) :: _) rfl ?_
  refine nn ?_
  refine cm_ret ?_
  refine xm_thenR ?_
  refine xm_nilrow 66 5 encApiItem ?_
  exact xm_retTT rfl (by kernel_rfl) (show _ = Value.slice _ _ _ from rfl) (by kernel_rfl) (show _ = Value.int .i64 _ from rfl) fun w1 c1 => ⟨(none, 0, 0), rfl, hsub [0] (by kernel_rfl) rfl w1 c1⟩
 ·refine sk ?_
  refine cm_seq ?_
  refine cm_bind fun r13 h14 => ?_
  refine cm_bind fun r15 h16 => ?_
  refine cm_held (ξ := (Option Addr) × Nat × Nat) (fun u35 => [(2, .pointer (some ⟨b5, 0, none⟩)), (3, .pointer (some ⟨b6, 0, none⟩)), (6, .int .i64 r7.1), (8, .slice u35.1 u35.2.1 u35.2.2)]) (fun u35 => [blkE b5 64 [.int .i64 p0.From, .int .i64 p0.Base, .int .i64 p0.Empty, .int .i64 p0.Kilo, .int .i64 p0.Free], blkE b6 59 [.int .i64 p1.ID, .int .i64 p1.Container, .int .i64 p1.Vehicle, .int .i64 p1.At, .int .i64 p1.Mass.Lo, .int .i64 p1.Mass.Hi, .bool p1.Void], ownE 66 5 encApiItem u35.1 u35.2.1 u35.2.2 ([r15])]) [blkE b6 59 [.int .i64 p1.ID, .int .i64 p1.Container, .int .i64 p1.Vehicle, .int .i64 p1.At, .int .i64 p1.Mass.Lo, .int .i64 p1.Mass.Hi, .bool p1.Void], blkE b5 64 [.int .i64 p0.From, .int .i64 p0.Base, .int .i64 p0.Empty, .int .i64 p0.Kilo, .int .i64 p0.Free]] 8 (by kernel_rfl) (by rfl) (hsub [0, 1] (by kernel_rfl) (by rfl)) ?_ ?_
  ·intro w37 c38
   refine wh_take 1 25 rfl (by kernel_rfl) (by kernel_rfl) (fun w2 c2 => (op_fieldL (m := 0) (k := 0) rfl (by kernel_rfl) rfl)) (hsub [0, 1] (by kernel_rfl) rfl _ c38) ?_
   refine wh_take 2 26 rfl (by kernel_rfl) (by kernel_rfl) (fun w2 c2 => (op_load rfl (by kernel_rfl) (c2.cell 0 (u := .int .i64 _) rfl rfl))) (hsub [0, 1] (by kernel_rfl) rfl _ c38) ?_
   refine wh_take 3 27 rfl (by kernel_rfl) (by kernel_rfl) (fun w2 c2 => (op_fieldL (m := 2) (k := 2) rfl (by kernel_rfl) rfl)) (hsub [0, 1] (by kernel_rfl) rfl _ c38) ?_
   refine wh_take 4 28 rfl (by kernel_rfl) (by kernel_rfl) (fun w2 c2 => (op_load rfl (by kernel_rfl) (c2.cell 1 (u := .int .i64 _) rfl rfl))) (hsub [0, 1] (by kernel_rfl) rfl _ c38) ?_
   refine wh_ready [0] (by kernel_rfl) rfl ⟨?_, trivial⟩
   refine ws_callH 24 (V := fun (u : Nat) => (fun (_r : Int) (u : Nat) => (.func (.func 94) #[] #[.pointer (some ⟨u, 0, none⟩)] : Value)) r13 u) [] [blkE b6 59 [.int .i64 p1.ID, .int .i64 p1.Container, .int .i64 p1.Vehicle, .int .i64 p1.At, .int .i64 p1.Mass.Lo, .int .i64 p1.Mass.Hi, .bool p1.Void], blkE b5 64 [.int .i64 p0.From, .int .i64 p0.Base, .int .i64 p0.Empty, .int .i64 p0.Kilo, .int .i64 p0.Free]] (O := fun (u : Nat) => (fun (r : Int) (u : Nat) => [blkE u 3 [.int .i64 r]]) r13 u) (sh [0, 1]) rfl (by kernel_rfl) (op_call (by kernel_rfl)) c38 (fun c1 => m_tariff_priced_ok N w0 _ [blkE b6 59 [.int .i64 p1.ID, .int .i64 p1.Container, .int .i64 p1.Vehicle, .int .i64 p1.At, .int .i64 p1.Mass.Lo, .int .i64 p1.Mass.Hi, .bool p1.Void], blkE b5 64 [.int .i64 p0.From, .int .i64 p0.Base, .int .i64 p0.Empty, .int .i64 p0.Kilo, .int .i64 p0.Free]] (2 : Int)  c1 r13 h14) ?_
   intro u39 w40 c41
   refine ⟨(hsub [1, 2] (by kernel_rfl) rfl _ c41), ?_⟩
   refine wh_strong (Hs w0 [blkE u39 3 [.int .i64 r13], blkE b6 59 [.int .i64 p1.ID, .int .i64 p1.Container, .int .i64 p1.Vehicle, .int .i64 p1.At, .int .i64 p1.Mass.Lo, .int .i64 p1.Mass.Hi, .bool p1.Void], blkE b5 64 [.int .i64 p0.From, .int .i64 p0.Base, .int .i64 p0.Empty, .int .i64 p0.Kilo, .int .i64 p0.Free]]) (fun w2 c2 => hsub [1, 2] (by kernel_rfl) rfl w2 c2) ?_
   refine wh_ready [5] (by kernel_rfl) rfl ⟨?_, trivial⟩
   refine ws_call 29 rfl (by kernel_rfl) (op_callv rfl (by kernel_rfl)) (m_tariff_priced_1_ok N _ p1.ID (1 : Int) p0.Empty r13 u39 (c41.blk 0 rfl) r15 h16) ?_
   rintro x w43 ⟨u42, rfl, c44⟩
   replace c44 := c41.call c44
   refine ⟨_, rfl, (hsub [0, 1, 2] (by kernel_rfl) rfl _ c44), ?_⟩
   refine wh_ready [6] (by kernel_rfl) rfl ⟨?_, trivial⟩
   refine ws_sliceN 30 (el := 66) (sz := 5) (bytes := 40) (enc := encApiItem) [r15] rfl (by kernel_rfl) (by kernel_rfl) encApiItem_len rfl ⟨rfl, rfl, trivial⟩ (by kernel_rfl) (by kernel_rfl) c44 ?_
   intro A45 n46 k47 w48 c49
   refine ⟨(hsub [1, 2, 3] (by kernel_rfl) rfl _ c49), ?_⟩
   refine wh_strong (Hs w0 [ownE 66 5 encApiItem A45 n46 k47 ([r15]), blkE u39 3 [.int .i64 r13], blkE b6 59 [.int .i64 p1.ID, .int .i64 p1.Container, .int .i64 p1.Vehicle, .int .i64 p1.At, .int .i64 p1.Mass.Lo, .int .i64 p1.Mass.Hi, .bool p1.Void], blkE b5 64 [.int .i64 p0.From, .int .i64 p0.Base, .int .i64 p0.Empty, .int .i64 p0.Kilo, .int .i64 p0.Free]]) (fun w2 c2 => hsub [1, 2, 3] (by kernel_rfl) rfl w2 c2) ?_
   refine wh_take 7 8 rfl (by kernel_rfl) (by kernel_rfl) (fun w2 c2 => (op_assign (v := .slice _ _ _) rfl)) (hsub [0, 1, 2, 3] (by kernel_rfl) rfl _ c49) ?_
   exact wh_done (A45, n46, k47) (by kernel_rfl) sq (hsub [3, 2, 0] (by kernel_rfl) rfl _ c49)
  intro u35
  refine xm_next ?_
  refine cm_join (σ := (List ApiItem)) (ξ := (Option Addr) × Nat × Nat) (fun s106 u107 => [(8, .slice u107.1 u107.2.1 u107.2.2)]) (fun s106 u107 => [ownE 66 5 encApiItem u107.1 u107.2.1 u107.2.2 s106]) ?_ ?_
  ·refine sr ?_
   refine la 2 ((32, .bool _) :: (31, .int .i64 _) :: _) rfl ?_
   refine nn ?_
   refine cm_cond (by kernel_rfl) rfl (fun h108 => ?_) (fun h108 => ?_)
   ·refine cm_bind fun r109 h110 => ?_
    refine cm_bind fun r111 h112 => ?_
    refine cm_ck (fun h119 => ?_)
    refine cm_of_then ?_
    refine cm_held (ξ := (Option Addr) × Nat × Nat) (fun u142 => [(8, .slice u142.1 u142.2.1 u142.2.2)]) (fun u142 => [ownE 66 5 encApiItem u142.1 u142.2.1 u142.2.2 (([r15]) ++ ([r111]))]) [blkE b5 64 [.int .i64 p0.From, .int .i64 p0.Base, .int .i64 p0.Empty, .int .i64 p0.Kilo, .int .i64 p0.Free], blkE b6 59 [.int .i64 p1.ID, .int .i64 p1.Container, .int .i64 p1.Vehicle, .int .i64 p1.At, .int .i64 p1.Mass.Lo, .int .i64 p1.Mass.Hi, .bool p1.Void]] 11 (by kernel_rfl) (by rfl) (hsub [0, 1] (by kernel_rfl) (by rfl)) ?_ ?_
    ·intro w144 c145
     refine wh_take 0 33 rfl (by kernel_rfl) (by kernel_rfl) (fun w2 c2 => (op_move (v := .slice _ _ _) rfl)) (hsub [0, 1] (by kernel_rfl) rfl _ c145) ?_
     refine wh_take 2 35 rfl (by kernel_rfl) (by kernel_rfl) (fun w2 c2 => (op_fieldL (m := 0) (k := 0) rfl (by kernel_rfl) rfl)) (hsub [0, 1] (by kernel_rfl) rfl _ c145) ?_
     refine wh_take 3 36 rfl (by kernel_rfl) (by kernel_rfl) (fun w2 c2 => (op_load rfl (by kernel_rfl) (c2.cell 1 (u := .int .i64 _) rfl rfl))) (hsub [0, 1] (by kernel_rfl) rfl _ c145) ?_
     refine wh_take 4 37 rfl (by kernel_rfl) (by kernel_rfl) (fun w2 c2 => (op_move (v := .int .i64 _) rfl)) (hsub [0, 1] (by kernel_rfl) rfl _ c145) ?_
     refine wh_take 5 38 rfl (by kernel_rfl) (by kernel_rfl) (fun w2 c2 => (op_fieldL (m := 3) (k := 3) rfl (by kernel_rfl) rfl)) (hsub [0, 1] (by kernel_rfl) rfl _ c145) ?_
     refine wh_take 6 39 rfl (by kernel_rfl) (by kernel_rfl) (fun w2 c2 => (op_load rfl (by kernel_rfl) (c2.cell 0 (u := .int .i64 _) rfl rfl))) (hsub [0, 1] (by kernel_rfl) rfl _ c145) ?_
     refine wh_ready [1] (by kernel_rfl) rfl ⟨?_, trivial⟩
     refine ws_callH 34 (V := fun (u : Nat) => (fun (_r : Int) (u : Nat) => (.func (.func 94) #[] #[.pointer (some ⟨u, 0, none⟩)] : Value)) r109 u) [] [blkE b5 64 [.int .i64 p0.From, .int .i64 p0.Base, .int .i64 p0.Empty, .int .i64 p0.Kilo, .int .i64 p0.Free], blkE b6 59 [.int .i64 p1.ID, .int .i64 p1.Container, .int .i64 p1.Vehicle, .int .i64 p1.At, .int .i64 p1.Mass.Lo, .int .i64 p1.Mass.Hi, .bool p1.Void], ownE 66 5 encApiItem u35.1 u35.2.1 u35.2.2 ([r15])] (O := fun (u : Nat) => (fun (r : Int) (u : Nat) => [blkE u 3 [.int .i64 r]]) r109 u) (sh [0, 1, 2]) rfl (by kernel_rfl) (op_call (by kernel_rfl)) c145 (fun c1 => m_tariff_priced_ok N w0 _ [blkE b5 64 [.int .i64 p0.From, .int .i64 p0.Base, .int .i64 p0.Empty, .int .i64 p0.Kilo, .int .i64 p0.Free], blkE b6 59 [.int .i64 p1.ID, .int .i64 p1.Container, .int .i64 p1.Vehicle, .int .i64 p1.At, .int .i64 p1.Mass.Lo, .int .i64 p1.Mass.Hi, .bool p1.Void], ownE 66 5 encApiItem u35.1 u35.2.1 u35.2.2 ([r15])] (3 : Int)  c1 r109 h110) ?_
     intro u146 w147 c148
     refine ⟨(hsub [1, 2] (by kernel_rfl) rfl _ c148), ?_⟩
     refine wh_strong (Hs w0 [blkE u146 3 [.int .i64 r109], blkE b5 64 [.int .i64 p0.From, .int .i64 p0.Base, .int .i64 p0.Empty, .int .i64 p0.Kilo, .int .i64 p0.Free], blkE b6 59 [.int .i64 p1.ID, .int .i64 p1.Container, .int .i64 p1.Vehicle, .int .i64 p1.At, .int .i64 p1.Mass.Lo, .int .i64 p1.Mass.Hi, .bool p1.Void]]) (fun w2 c2 => hsub [1, 2] (by kernel_rfl) rfl w2 c2) ?_
     refine wh_ready [7] (by kernel_rfl) rfl ⟨?_, trivial⟩
     refine ws_call 40 rfl (by kernel_rfl) (op_callv rfl (by kernel_rfl)) (m_tariff_priced_1_ok N _ p1.ID r7.1 p0.Kilo r109 u146 (c148.blk 0 rfl) r111 h112) ?_
     rintro x w150 ⟨u149, rfl, c151⟩
     replace c151 := c148.call c151
     refine ⟨_, rfl, (hsub [0, 1, 2] (by kernel_rfl) rfl _ c151), ?_⟩
     refine wh_ready [8] (by kernel_rfl) rfl ⟨?_, trivial⟩
     refine ws_sliceN 41 (el := 66) (sz := 5) (bytes := 40) (enc := encApiItem) [r111] rfl (by kernel_rfl) (by kernel_rfl) encApiItem_len rfl ⟨rfl, rfl, trivial⟩ (by kernel_rfl) (by kernel_rfl) c151 ?_
     intro A152 n153 k154 w155 c156
     refine ⟨(hsub [1, 2, 3] (by kernel_rfl) rfl _ c156), ?_⟩
     refine wh_strong (Hs w0 [ownE 66 5 encApiItem A152 n153 k154 ([r111]), blkE u146 3 [.int .i64 r109], blkE b5 64 [.int .i64 p0.From, .int .i64 p0.Base, .int .i64 p0.Empty, .int .i64 p0.Kilo, .int .i64 p0.Free], blkE b6 59 [.int .i64 p1.ID, .int .i64 p1.Container, .int .i64 p1.Vehicle, .int .i64 p1.At, .int .i64 p1.Mass.Lo, .int .i64 p1.Mass.Hi, .bool p1.Void]]) (fun w2 c2 => hsub [1, 2, 3] (by kernel_rfl) rfl w2 c2) ?_
     refine wh_ready [9] (by kernel_rfl) rfl ⟨?_, trivial⟩
     refine ws_append 42 4 (el := 66) (sz := 5) (bytes := 40) (enc := encApiItem) (l2 := ([r111])) rfl (by kernel_rfl) (by kernel_rfl) encApiItem_len encApiItem_one rfl rfl rfl (c156.ownZ 0 rfl) (c156.own 0 rfl encApiItem_len) h119 (by kernel_rfl) c156 ?_
     intro A158 n159 k160 w161 c162
     refine ⟨(hsub [0, 1, 2, 3] (by kernel_rfl) rfl _ c162), ?_⟩
     refine wh_take 10 8 rfl (by kernel_rfl) (by kernel_rfl) (fun w2 c2 => (op_assign (v := .slice _ _ _) rfl)) (hsub [0, 1, 2, 3] (by kernel_rfl) rfl _ c162) ?_
     exact wh_done (A158, n159, k160) (by kernel_rfl) sq (hsub [4] (by kernel_rfl) rfl _ c162)
    intro u142
    refine xm_of_then ?_
    exact xm_lnext (u142.1, u142.2.1, u142.2.2) sq (sh [0])
   ·refine cm_skip ?_
    exact xm_lnext (u35.1, u35.2.1, u35.2.2) sq (sh [2])
  intro s106 u107
  refine sr ?_
  refine la 3 ((5, .int .i64 _) :: (4, .slice _ _ _) :: (43, .slice _ _ _) :: _) rfl ?_
  refine nn ?_
  refine cm_ret ?_
  exact xm_retTT rfl (by kernel_rfl) (show _ = Value.slice _ _ _ from rfl) (by kernel_rfl) (show _ = Value.int .i64 _ from rfl) fun w1 c1 => ⟨(u107.1, u107.2.1, u107.2.2), rfl, hsub [0] (by kernel_rfl) rfl w1 c1⟩
/-- tariff.Base -/
def m_tariff_Base (N : Nat) (p0 : (List ApiTariff)) (p1 : ApiWindow) : Option ((List ApiItem) × Int) :=
 Option.bind (m_tariff_Check N p0) fun r6 => (if r6 ≠ 0 then
  some ((([] : List ApiItem), r6))
 else
  (if (((decide (p1.From < 0)) || (decide (p1.To < p1.From))) || (decide (36525 < p1.To))) = true then
   some ((([] : List ApiItem), (1 : Int)))
  else
   ck (decide (p1.From < p1.To) = true → (0 : Int) ≤ 0 ∧ 0 < (List.length p0 : Int)) (
    (if ((decide (p1.From < p1.To)) && (decide (p1.From < (ix p0 0).From))) = true then
     some ((([] : List ApiItem), (7 : Int)))
    else
     Option.bind (m_tariff_priced N (1 : Int)) fun r15 => (andThen
      (loopM (fun (s289 : (List ApiItem) × Int) =>
       (if s289.2 < (List.length p0 : Int) then
        (andThen
         (ck ((0 : Int) ≤ s289.2 ∧ s289.2 < (List.length p0 : Int)) (
          (andThen
           (ck (I64 (s289.2 + (1 : Int))) (
            (if (s289.2 + (1 : Int)) < (List.length p0 : Int) then
             ck (I64 (s289.2 + (1 : Int))) (
              ck ((0 : Int) ≤ (s289.2 + (1 : Int)) ∧ (s289.2 + (1 : Int)) < (List.length p0 : Int)) (
               some (.next (min p1.To ((ix p0 (s289.2 + (1 : Int))).From)))))
            else
             some (.next p1.To))))
          fun (s324 : Int) =>
           ck (I64 (s324 - (max p1.From ((ix p0 s289.2).From)))) (
            (if 0 < (s324 - (max p1.From ((ix p0 s289.2).From))) then
             Option.bind (m_tariff_priced_1 N s289.2 (s324 - (max p1.From ((ix p0 s289.2).From))) ((ix p0 s289.2).Base) r15) fun r332 => ck ((List.length s289.1 + List.length ([r332])) * 40 ≤ 140737488355328) (
              some (.next (s289.1 ++ ([r332]))))
            else
             some (.next s289.1))))))
        fun (s316 : (List ApiItem)) =>
         ck (I64 (s289.2 + (1 : Int))) (
          some (.next (s316, (s289.2 + (1 : Int))))))
       else
        some (.done (.next s289.1)))) N (([] : List ApiItem), (0 : Int)))
     fun (s179 : (List ApiItem)) =>
      some ((s179, (0 : Int))))))))
set_option maxHeartbeats 2000000 in
set_option maxRecDepth 20000 in
theorem m_tariff_Base_ok (N : Nat) (w0 : World) (p0 : (List ApiTariff)) (p1 : ApiWindow) (A_p0 : Option Addr) (n_p0 c_p0 : Nat) (hr_p0 : RdE w0 5 encApiTariff A_p0 p0) (hz_p0 : SW A_p0 n_p0 c_p0 (List.length p0)) (r : (List ApiItem) × Int) (hr : m_tariff_Base N p0 p1 = some r) :
  Ret Tryz.prog 25 [.slice A_p0 n_p0 c_p0, .agg #[.int .i64 p1.From, .int .i64 p1.To]] w0 (fun (r : (List ApiItem) × Int) (u : (Option Addr) × Nat × Nat) => .tuple #[.slice u.1 u.2.1 u.2.2, .int .i64 r.2]) (fun (r : (List ApiItem) × Int) (u : (Option Addr) × Nat × Nat) => [ownE 66 5 encApiItem u.1 u.2.1 u.2.2 r.1]) r := by
 refine calls_v (n := 90) r hr Tryz.func25 ?_
 unfold m_tariff_Base
 refine sr ?_
 refine lm_box 3 [.int .i64 _, .int .i64 _] (by kernel_rfl) rfl ?_
 intro b5
 refine la 2 ((5, .int .i64 _) :: (4, .slice _ _ _) :: _) rfl ?_
 refine nn ?_
 refine cm_seq ?_
 refine sr ?_
 refine la 1 ((13, .slice _ _ _) :: _) rfl ?_
 refine lm_call 14 (V := (fun (r : Int) (_u : Unit) => .int .i64 r)) (HR := (fun (_r : Int) (_u : Unit) => [])) (by kernel_rfl) (fun w1 => op_call (by kernel_rfl)) (fun r1 hr1 w1 c1 => m_tariff_Check_ok N w1 p0 A_p0 n_p0 c_p0 (hr_p0.old c1) hz_p0 r1 hr1) ?_
 intro r6 u7
 refine la 1 ((6, .int .i64 _) :: _) rfl ?_
 refine nn ?_
 refine sr ?_
 refine la 2 ((16, .bool _) :: (15, .int .i64 _) :: _) rfl ?_
 refine nn ?_
 refine cm_cond (by kernel_rfl) rfl (fun h8 => ?_) (fun h8 => ?_)
 ·refine sr ?_
  refine la 3 ((5, .int .i64 _) :: (4, .slice _ _ _) :: (17, .int .i64 _) :: _) rfl ?_
  refine nn ?_
  refine cm_ret ?_
  refine xm_thenR ?_
  refine xm_nilrow 66 5 encApiItem ?_
  exact xm_retTT rfl (by kernel_rfl) (show _ = Value.slice _ _ _ from rfl) (by kernel_rfl) (show _ = Value.int .i64 _ from rfl) fun w1 c1 => ⟨(none, 0, 0), rfl, hsub [0] (by kernel_rfl) rfl w1 c1⟩
 ·refine sk ?_
  refine cm_seq ?_
  refine cm_seq ?_
  refine cm_cutE [(32, .bool (((decide (p1.From < 0)) || (decide (p1.To < p1.From))) || (decide (36525 < p1.To))))] ?_ ?_
  ·refine q_ 18 (fun _ _ => oF 0 0 rfl) ?_
   refine q_ 19 (fun _ c1 => oL (c1.cell 0 (u := .int .i64 _) rfl rfl)) ?_
   refine qd 20 (fun _ _ => op_lss rfl rfl) (fun h9 => ?_) (fun h9 => ?_)
   ·refine qa 12 ((32, .bool true) :: (31, undef) :: (30, undef) :: (29, undef) :: (28, .bool true) :: (27, .bool true) :: (26, undef) :: (25, undef) :: (24, undef) :: (23, undef) :: (22, undef) :: (21, .bool true) :: _) rfl ?_
    exact leaf_q (sub_out 15 _ rfl (by kernel_rfl) ⟨(congrArg Value.bool (by rw [decide_eq_true h9] <;> rfl)), trivial⟩)
   ·refine qa 1 ((21, .bool false) :: _) rfl ?_
    refine q_ 22 (fun _ _ => oF 0 0 rfl) ?_
    refine q_ 23 (fun _ c1 => oL (c1.cell 0 (u := .int .i64 _) rfl rfl)) ?_
    refine q_ 24 (fun _ _ => oF 1 1 rfl) ?_
    refine q_ 25 (fun _ c1 => oL (c1.cell 0 (u := .int .i64 _) rfl rfl)) ?_
    refine qd 26 (fun _ _ => op_gtr rfl rfl) (fun h10 => ?_) (fun h10 => ?_)
    ·refine qa 6 ((32, .bool true) :: (31, undef) :: (30, undef) :: (29, undef) :: (28, .bool true) :: (27, .bool true) :: _) rfl ?_
     exact leaf_q (sub_out 15 _ rfl (by kernel_rfl) ⟨(congrArg Value.bool (by rw [decide_eq_false h9, decide_eq_true h10] <;> rfl)), trivial⟩)
    ·refine qa 2 ((28, .bool false) :: (27, .bool false) :: _) rfl ?_
     refine q_ 29 (fun _ _ => oF 1 1 rfl) ?_
     refine q_ 30 (fun _ c1 => oL (c1.cell 0 (u := .int .i64 _) rfl rfl)) ?_
     refine qa 2 ((32, .bool _) :: (31, .bool _) :: _) rfl ?_
     exact leaf_q (sub_out 15 _ rfl (by kernel_rfl) ⟨(congrArg Value.bool (by rw [decide_eq_false h9, decide_eq_false h10] <;> rfl)), trivial⟩)
  refine xm_next ?_
  refine cm_condB (by kernel_rfl) rfl (fun h11 => ?_) (fun h11 => ?_)
  ·refine sr ?_
   refine la 2 ((5, .int .i64 _) :: (4, .slice _ _ _) :: _) rfl ?_
   refine nn ?_
   refine cm_ret ?_
   refine xm_thenR ?_
   refine xm_nilrow 66 5 encApiItem ?_
   exact xm_retTT rfl (by kernel_rfl) (show _ = Value.slice _ _ _ from rfl) (by kernel_rfl) (show _ = Value.int .i64 _ from rfl) fun w1 c1 => ⟨(none, 0, 0), rfl, hsub [0] (by kernel_rfl) rfl w1 c1⟩
  ·refine sk ?_
   refine cm_seq ?_
   refine cm_seq ?_
   refine cm_ck (fun h12 => ?_)
   refine cm_drawn [(46, .bool ((decide (p1.From < p1.To)) && (decide (p1.From < (ix p0 0).From))))] (by kernel_rfl) (by kernel_rfl) ?_ ?_
   ·refine q_ 33 (fun _ _ => oF 0 0 rfl) ?_
    refine q_ 34 (fun _ c1 => oL (c1.cell 0 (u := .int .i64 _) rfl rfl)) ?_
    refine q_ 35 (fun _ _ => oF 1 1 rfl) ?_
    refine q_ 36 (fun _ c1 => oL (c1.cell 0 (u := .int .i64 _) rfl rfl)) ?_
    refine qd 37 (fun _ _ => op_lss rfl rfl) (fun h13 => ?_) (fun h13 => ?_)
    ·refine qa 1 ((38, .bool true) :: _) rfl ?_
     refine q_ 39 (fun _ _ => oF 0 0 rfl) ?_
     refine q_ 40 (fun _ c1 => oL (c1.cell 0 (u := .int .i64 _) rfl rfl)) ?_
     refine qa 1 ((41, .slice _ _ _) :: _) rfl ?_
     refine q_ 42 (fun _ c1 => oI 5 rfl rfl ((hr_p0.old c1).addr (h12 (by rw [decide_eq_true h13] <;> rfl)).1 (h12 (by rw [decide_eq_true h13] <;> rfl)).2) hz_p0.2.2 (h12 (by rw [decide_eq_true h13] <;> rfl))) ?_
     refine q_ 43 (fun _ _ => op_field0 rfl (by kernel_rfl)) ?_
     refine q_ 44 (fun _ c1 => oL (v := .int .i64 ((ix p0 0).From)) ((hr_p0.old c1).cell0 (h12 (by rw [decide_eq_true h13] <;> rfl)).1 (h12 (by rw [decide_eq_true h13] <;> rfl)).2 rfl)) ?_
     refine qa 2 ((46, .bool _) :: (45, .bool _) :: _) rfl ?_
     exact leaf_q (sub_out 14 _ rfl (by kernel_rfl) ⟨(congrArg Value.bool (by rw [decide_eq_true h13] <;> rfl)), trivial⟩)
    ·refine qa 9 ((46, .bool false) :: (45, undef) :: (44, undef) :: (43, undef) :: (42, undef) :: (41, undef) :: (40, undef) :: (39, undef) :: (38, .bool false) :: _) rfl ?_
     exact leaf_q (sub_out 14 _ rfl (by kernel_rfl) ⟨(congrArg Value.bool (by rw [decide_eq_false h13] <;> rfl)), trivial⟩)
   refine xm_next ?_
   refine cm_condB (by kernel_rfl) rfl (fun h14 => ?_) (fun h14 => ?_)
   ·refine sr ?_
    refine la 2 ((5, .int .i64 _) :: (4, .slice _ _ _) :: _) rfl ?_
    refine nn ?_
    refine cm_ret ?_
    refine xm_thenR ?_
    refine xm_nilrow 66 5 encApiItem ?_
    exact xm_retTT rfl (by kernel_rfl) (show _ = Value.slice _ _ _ from rfl) (by kernel_rfl) (show _ = Value.int .i64 _ from rfl) fun w1 c1 => ⟨(none, 0, 0), rfl, hsub [0] (by kernel_rfl) rfl w1 c1⟩
   ·refine sk ?_
    refine sr ?_
    refine lm_callH 47 (V := (fun (_r : Int) (u : Nat) => (.func (.func 94) #[] #[.pointer (some ⟨u, 0, none⟩)] : Value))) [] [blkE b5 34 [.int .i64 p1.From, .int .i64 p1.To]] (O := (fun (r : Int) (u : Nat) => [blkE u 3 [.int .i64 r]])) (sh [0]) (by kernel_rfl) (fun w1 => op_call (by kernel_rfl)) (fun r1 hr1 w1 c1 => m_tariff_priced_ok N w0 w1 [blkE b5 34 [.int .i64 p1.From, .int .i64 p1.To]] (1 : Int)  c1 r1 hr1) ?_
    intro r15 u16
    refine la 1 ((7, .func _ _ _) :: _) rfl ?_
    refine nn ?_
    refine sr ?_
    refine la 1 ((8, .slice _ _ _) :: _) rfl ?_
    refine nn ?_
    refine cm_join (σ := (List ApiItem)) (ξ := (Option Addr) × Nat × Nat) (fun s179 u180 => [(8, .slice u180.1 u180.2.1 u180.2.2)]) (fun s179 u180 => [ownE 66 5 encApiItem u180.1 u180.2.1 u180.2.2 s179]) ?_ ?_
    ·refine sr ?_
     refine la 1 ((48, .slice _ _ _) :: _) rfl ?_
     refine v_ 49 (fun _ _ => op_lenN rfl (by kernel_rfl) hz_p0.2.2) ?_
     refine la 1 ((50, .int .i64 _) :: _) rfl ?_
     refine nn ?_
     refine cm_block ?_
     refine cm_nilrow 66 5 encApiItem ?_
     refine cm_loop (σ := (List ApiItem) × Int) (ξ := (Option Addr) × Nat × Nat) (fun s289 u290 => [(0, .slice A_p0 n_p0 c_p0), (3, .pointer (some ⟨b5, 0, none⟩)), (7, .func (.func 94) #[] #[.pointer (some ⟨u16, 0, none⟩)]), (8, .slice u290.1 u290.2.1 u290.2.2), (48, .slice A_p0 n_p0 c_p0), (49, .int .i64 (List.length p0 : Int)), (50, .int .i64 s289.2)]) (fun s289 u290 => [blkE b5 34 [.int .i64 p1.From, .int .i64 p1.To], blkE u16 3 [.int .i64 r15], ownE 66 5 encApiItem u290.1 u290.2.1 u290.2.2 s289.1]) (none, 0, 0) ?_ ?_ ?_
     ·exact sq
     ·exact sh [2, 1, 0]
     intro s289 u290
     refine sr ?_
     refine la 1 ((51, .bool _) :: _) rfl ?_
     refine nn ?_
     refine cm_seq ?_
     refine cm_cond (by kernel_rfl) rfl (fun h291 => ?_) (fun h291 => ?_)
     ·refine sk ?_
      refine cm_join (σ := (List ApiItem)) (ξ := (Option Addr) × Nat × Nat) (fun s316 u317 => [(0, .slice A_p0 n_p0 c_p0), (3, .pointer (some ⟨b5, 0, none⟩)), (7, .func (.func 94) #[] #[.pointer (some ⟨u16, 0, none⟩)]), (8, .slice u317.1 u317.2.1 u317.2.2), (48, .slice A_p0 n_p0 c_p0), (49, .int .i64 (List.length p0 : Int)), (50, .int .i64 s289.2)]) (fun s316 u317 => [blkE b5 34 [.int .i64 p1.From, .int .i64 p1.To], blkE u16 3 [.int .i64 r15], ownE 66 5 encApiItem u317.1 u317.2.1 u317.2.2 s316]) ?_ ?_
      ·refine cm_block ?_
       refine sr ?_
       refine la 1 ((52, .int .i64 _) :: _) rfl ?_
       refine lm_ck (fun h318 => ?_)
       refine v_ 53 (fun _ c1 => oI 5 rfl rfl ((hr_p0.old c1).addr h318.1 h318.2) hz_p0.2.2 h318) ?_
       refine v_ 54 (fun _ c1 => oR [.int .i64 ((ix p0 s289.2).From), .int .i64 ((ix p0 s289.2).Base), .int .i64 ((ix p0 s289.2).Empty), .int .i64 ((ix p0 s289.2).Kilo), .int .i64 ((ix p0 s289.2).Free)] ((hr_p0.old c1).row h318.1 h318.2)) ?_
       refine lm_alloc 10 [.int .i64 0, .int .i64 0, .int .i64 0, .int .i64 0, .int .i64 0] (v := .agg #[.int .i64 0, .int .i64 0, .int .i64 0, .int .i64 0, .int .i64 0]) (by kernel_rfl) (by kernel_rfl) rfl ?_
       intro b319
       refine la 1 ((9, .int .i64 _) :: _) rfl ?_
       refine lm_storeA 0 [.int .i64 _, .int .i64 _, .int .i64 _, .int .i64 _, .int .i64 _] [_, _, _, _, _] (H' := [blkE _ _ [_, _, _, _, _], _, _, _]) (by kernel_rfl) rfl rfl (by kernel_rfl) rfl rfl (by kernel_rfl) rfl rfl ?_
       refine nn ?_
       refine sr ?_
       refine v_ 55 (fun _ _ => oF 1 1 rfl) ?_
       refine v_ 56 (fun _ c1 => oL (c1.cell 1 (u := .int .i64 _) rfl rfl)) ?_
       refine la 1 ((11, .int .i64 _) :: _) rfl ?_
       refine nn ?_
       refine cm_join (σ := Int) (ξ := Unit) (fun s324 u325 => [(0, .slice A_p0 n_p0 c_p0), (3, .pointer (some ⟨b5, 0, none⟩)), (7, .func (.func 94) #[] #[.pointer (some ⟨u16, 0, none⟩)]), (8, .slice u290.1 u290.2.1 u290.2.2), (9, .int .i64 s289.2), (10, .pointer (some ⟨b319, 0, none⟩)), (11, .int .i64 s324), (48, .slice A_p0 n_p0 c_p0), (49, .int .i64 (List.length p0 : Int)), (50, .int .i64 s289.2)]) (fun s324 u325 => [blkE b5 34 [.int .i64 p1.From, .int .i64 p1.To], blkE u16 3 [.int .i64 r15], ownE 66 5 encApiItem u290.1 u290.2.1 u290.2.2 s289.1, blkE b319 64 [.int .i64 ((ix p0 s289.2).From), .int .i64 ((ix p0 s289.2).Base), .int .i64 ((ix p0 s289.2).Empty), .int .i64 ((ix p0 s289.2).Kilo), .int .i64 ((ix p0 s289.2).Free)]]) ?_ ?_
       ·refine sr ?_
        refine la 1 ((57, .int .i64 _) :: _) rfl ?_
        refine lm_ck (fun h326 => ?_)
        refine v_ 58 (fun _ _ => op_add rfl rfl h326) ?_
        refine la 1 ((59, .slice _ _ _) :: _) rfl ?_
        refine v_ 60 (fun _ _ => op_lenN rfl (by kernel_rfl) hz_p0.2.2) ?_
        refine la 1 ((61, .bool _) :: _) rfl ?_
        refine nn ?_
        refine cm_cond (by kernel_rfl) rfl (fun h327 => ?_) (fun h327 => ?_)
        ·refine cm_region ?_
         refine la 3 ((64, .int .i64 _) :: (63, .slice _ _ _) :: (62, .int .i64 _) :: _) rfl ?_
         refine lm_ck (fun h328 => ?_)
         refine v_ 65 (fun _ _ => op_add rfl rfl h328) ?_
         refine lm_ck (fun h329 => ?_)
         refine v_ 66 (fun _ c1 => oI 5 rfl rfl ((hr_p0.old c1).addr h329.1 h329.2) hz_p0.2.2 h329) ?_
         refine v_ 67 (fun _ _ => op_field0 rfl (by kernel_rfl)) ?_
         refine v_ 68 (fun _ c1 => oL (v := .int .i64 ((ix p0 (s289.2 + (1 : Int))).From)) ((hr_p0.old c1).cell0 h329.1 h329.2 rfl)) ?_
         refine v_ 69 (fun _ _ => op_min rfl rfl) ?_
         refine la 1 ((11, .int .i64 _) :: _) rfl ?_
         refine lm_nil ?_
         exact xm_lnext () sq (sh [1, 2, 3, 0])
        ·refine cm_skip ?_
         exact xm_lnext () sq (sh [1, 2, 3, 0])
       intro s324 u325
       refine sr ?_
       refine la 1 ((70, .int .i64 _) :: _) rfl ?_
       refine v_ 71 (fun _ _ => oF 0 0 rfl) ?_
       refine v_ 72 (fun _ c1 => oL (c1.cell 0 (u := .int .i64 _) rfl rfl)) ?_
       refine v_ 73 (fun _ _ => oF 0 0 rfl) ?_
       refine v_ 74 (fun _ c1 => oL (c1.cell 3 (u := .int .i64 _) rfl rfl)) ?_
       refine v_ 75 (fun _ _ => op_max rfl rfl) ?_
       refine lm_ck (fun h330 => ?_)
       refine v_ 76 (fun _ _ => op_sub rfl rfl h330) ?_
       refine la 1 ((12, .int .i64 _) :: _) rfl ?_
       refine nn ?_
       refine sr ?_
       refine la 2 ((78, .bool _) :: (77, .int .i64 _) :: _) rfl ?_
       refine nn ?_
       refine cm_cond (by kernel_rfl) rfl (fun h331 => ?_) (fun h331 => ?_)
       ·refine cm_region ?_
        refine la 4 ((82, .int .i64 _) :: (81, .int .i64 _) :: (80, .func _ _ _) :: (79, .slice _ _ _) :: _) rfl ?_
        refine v_ 83 (fun _ _ => oF 1 1 rfl) ?_
        refine v_ 84 (fun _ c1 => oL (c1.cell 3 (u := .int .i64 _) rfl rfl)) ?_
        refine lm_call 85 (V := (fun (r : ApiItem) (_u : Unit) => .agg #[.int .i64 r.Kind, .int .i64 r.Ref, .int .i64 r.Count, .int .i64 r.Price, .int .i64 r.Amount])) (HR := (fun (_r : ApiItem) (_u : Unit) => [])) (by kernel_rfl) (fun w1 => op_callv rfl (by kernel_rfl)) (fun r1 hr1 w1 c1 => m_tariff_priced_1_ok N w1 s289.2 (s324 - (max p1.From ((ix p0 s289.2).From))) ((ix p0 s289.2).Base) r15 u16 (c1.blk 1 rfl) r1 hr1) ?_
        intro r332 u333
        refine lm_slice1 86 (el := 66) (sz := 5) (bytes := 40) (enc := encApiItem) r332 (by kernel_rfl) (by kernel_rfl) encApiItem_len rfl (by kernel_rfl) ?_
        intro A334 n335 k336 h337
        refine lm_ck (fun h338 => ?_)
        refine lm_append 87 3 (el := 66) (sz := 5) (bytes := 40) (enc := encApiItem) (l2 := ([r332])) (by kernel_rfl) (by kernel_rfl) encApiItem_len encApiItem_one rfl rfl rfl (fun w1 c1 => (c1.ownZ 0 rfl)) (fun w1 c1 => (c1.own 0 rfl encApiItem_len)) h338 ?_ (by kernel_rfl)
        intro A339 n340 k341
        refine la 1 ((8, .slice _ _ _) :: _) rfl ?_
        refine lm_nil ?_
        refine xm_inN ?_
        exact xm_lnext (A339, n340, k341) sq (sh [1, 2, 3])
       ·refine cm_skip ?_
        refine xm_inN ?_
        exact xm_lnext (u290.1, u290.2.1, u290.2.2) sq (sh [0, 1, 2])
      intro s316 u317
      refine cm_region ?_
      refine lm_ck (fun h342 => ?_)
      refine v_ 88 (fun _ _ => op_add rfl rfl h342) ?_
      refine la 1 ((50, .int .i64 _) :: _) rfl ?_
      refine lm_nil ?_
      exact xm_lnext (u317.1, u317.2.1, u317.2.2) sq (sh [0, 1, 2])
     ·refine cm_exit ?_
      refine xm_thenE ?_
      refine xm_lexit ?_
      refine xm_here ?_
      exact xm_lnext (u290.1, u290.2.1, u290.2.2) sq (sh [2])
    intro s179 u180
    refine sr ?_
    refine la 3 ((5, .int .i64 _) :: (4, .slice _ _ _) :: (89, .slice _ _ _) :: _) rfl ?_
    refine nn ?_
    refine cm_ret ?_
    exact xm_retTT rfl (by kernel_rfl) (show _ = Value.slice _ _ _ from rfl) (by kernel_rfl) (show _ = Value.int .i64 _ from rfl) fun w1 c1 => ⟨(u180.1, u180.2.1, u180.2.2), rfl, hsub [0] (by kernel_rfl) rfl w1 c1⟩
end Go.Proofs.YtpbgfdmkebnjgaaGreatDoor
