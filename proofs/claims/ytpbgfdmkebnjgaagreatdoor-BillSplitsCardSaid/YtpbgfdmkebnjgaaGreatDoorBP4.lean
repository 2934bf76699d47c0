/- Models of functions, and that the code follows them. Written by deco.py. -/
import Derived.Test.YtpbgfdmkebnjgaaGreatDoorBP3
namespace Go.Proofs.YtpbgfdmkebnjgaaGreatDoor
open Go.RowKit
set_option linter.unusedSectionVars false
variable [JF]

structure ApiAccount where
 Households : (List ApiHousehold)
 Containers : (List ApiContainer)
 Assigns : (List ApiAssign)
 Emptyings : (List ApiEmptying)
 Tariffs : (List ApiTariff)
 Gap : Int
deriving Inhabited
structure ApiBill where
 ID : Int
 Household : Int
 When : ApiWindow
 Items : (List ApiItem)
 Total : Int
deriving Inhabited
/-- bill.Check -/
def m_bill_Check (N : Nat) (p0 : ApiAccount) : Option (Int) :=
 Option.bind (m_container_Check N p0.Containers (16 : Int) (64 : Int)) fun r6 => (if r6 ≠ 0 then
  some (r6)
 else
  Option.bind (m_household_Check N p0.Households (List.length p0.Containers : Int) p0.Assigns) fun r9 => (if r9 ≠ 0 then
   some (r9)
  else
   Option.bind (m_emptying_Check N p0.Emptyings (List.length p0.Containers : Int) (16 : Int)) fun r12 => (if r12 ≠ 0 then
    some (r12)
   else
    Option.bind (m_tariff_Check N p0.Tariffs) fun r15 => (if r15 ≠ 0 then
     some (r15)
    else
     (if ((decide (p0.Gap < 0)) || (decide (86400 < p0.Gap))) = true then
      some ((1 : Int))
     else
      some ((0 : Int)))))))
set_option maxHeartbeats 2000000 in
set_option maxRecDepth 20000 in
theorem m_bill_Check_ok (N : Nat) (w0 : World) (p0 : ApiAccount) (A_p01 : Option Addr) (n_p01 c_p01 : Nat) (A_p02 : Option Addr) (n_p02 c_p02 : Nat) (A_p03 : Option Addr) (n_p03 c_p03 : Nat) (A_p04 : Option Addr) (n_p04 c_p04 : Nat) (A_p05 : Option Addr) (n_p05 c_p05 : Nat) (hr_p01 : RdE w0 2 encApiHousehold A_p01 p0.Households) (hz_p01 : SW A_p01 n_p01 c_p01 (List.length p0.Households)) (hr_p02 : RdE w0 5 encApiContainer A_p02 p0.Containers) (hz_p02 : SW A_p02 n_p02 c_p02 (List.length p0.Containers)) (hr_p03 : RdE w0 4 encApiAssign A_p03 p0.Assigns) (hz_p03 : SW A_p03 n_p03 c_p03 (List.length p0.Assigns)) (hr_p04 : RdE w0 7 encApiEmptying A_p04 p0.Emptyings) (hz_p04 : SW A_p04 n_p04 c_p04 (List.length p0.Emptyings)) (hr_p05 : RdE w0 5 encApiTariff A_p05 p0.Tariffs) (hz_p05 : SW A_p05 n_p05 c_p05 (List.length p0.Tariffs)) (r : Int) (hr : m_bill_Check N p0 = some r) :
  Ret Tryz.prog 14 [.agg #[.slice A_p01 n_p01 c_p01, .slice A_p02 n_p02 c_p02, .slice A_p03 n_p03 c_p03, .slice A_p04 n_p04 c_p04, .slice A_p05 n_p05 c_p05, .int .i64 p0.Gap]] w0 (fun (r : Int) (_u : Unit) => .int .i64 r) (fun (_r : Int) (_u : Unit) => []) r := by
 refine calls_v (n := 47) r hr Tryz.func14 ?_
 unfold m_bill_Check
 refine sr ?_
 refine lm_box 1 [.slice _ _ _, .slice _ _ _, .slice _ _ _, .slice _ _ _, .slice _ _ _, .int .i64 _] (by kernel_rfl) rfl ?_
 intro b5
 refine la 1 ((2, .int .i64 _) :: _) rfl ?_
 refine nn ?_
 refine sr ?_
 refine v_ 8 (fun _ _ => oF 1 1 rfl) ?_
 refine v_ 9 (fun _ c1 => oL (c1.cell 0 (u := .slice _ _ _) rfl rfl)) ?_
 refine v_ 10 (fun _ _ => op_lenN rfl (by kernel_rfl) hz_p02.2.2) ?_
 refine la 1 ((3, .int .i64 _) :: _) rfl ?_
 refine nn ?_
 refine cm_seq ?_
 refine sr ?_
 refine v_ 11 (fun _ _ => oF 1 1 rfl) ?_
 refine v_ 12 (fun _ c1 => oL (c1.cell 0 (u := .slice _ _ _) rfl rfl)) ?_
 refine lm_call 13 (V := (fun (r : Int) (_u : Unit) => .int .i64 r)) (HR := (fun (_r : Int) (_u : Unit) => [])) (by kernel_rfl) (fun w1 => op_call (by kernel_rfl)) (fun r1 hr1 w1 c1 => m_container_Check_ok N w1 p0.Containers (16 : Int) (64 : Int) A_p02 n_p02 c_p02 (hr_p02.old c1) hz_p02 r1 hr1) ?_
 intro r6 u7
 refine la 1 ((4, .int .i64 _) :: _) rfl ?_
 refine nn ?_
 refine sr ?_
 refine la 2 ((15, .bool _) :: (14, .int .i64 _) :: _) rfl ?_
 refine nn ?_
 refine cm_cond (by kernel_rfl) rfl (fun h8 => ?_) (fun h8 => ?_)
 ·refine sr ?_
  refine la 2 ((2, .int .i64 _) :: (16, .int .i64 _) :: _) rfl ?_
  refine nn ?_
  refine cm_ret ?_
  refine xm_thenR ?_
  exact xm_retT rfl (by kernel_rfl) (show _ = Value.int .i64 _ from rfl) fun w1 c1 => ⟨(), rfl, hsub [] (by kernel_rfl) rfl w1 c1⟩
 ·refine sk ?_
  refine cm_seq ?_
  refine sr ?_
  refine v_ 17 (fun _ _ => oF 0 0 rfl) ?_
  refine v_ 18 (fun _ c1 => oL (c1.cell 0 (u := .slice _ _ _) rfl rfl)) ?_
  refine la 1 ((19, .int .i64 _) :: _) rfl ?_
  refine v_ 20 (fun _ _ => oF 2 2 rfl) ?_
  refine v_ 21 (fun _ c1 => oL (c1.cell 0 (u := .slice _ _ _) rfl rfl)) ?_
  refine lm_call 22 (V := (fun (r : Int) (_u : Unit) => .int .i64 r)) (HR := (fun (_r : Int) (_u : Unit) => [])) (by kernel_rfl) (fun w1 => op_call (by kernel_rfl)) (fun r1 hr1 w1 c1 => m_household_Check_ok N w1 p0.Households (List.length p0.Containers : Int) p0.Assigns A_p01 n_p01 c_p01 A_p03 n_p03 c_p03 (hr_p01.old c1) hz_p01 (hr_p03.old c1) hz_p03 r1 hr1) ?_
  intro r9 u10
  refine la 1 ((5, .int .i64 _) :: _) rfl ?_
  refine nn ?_
  refine sr ?_
  refine la 2 ((24, .bool _) :: (23, .int .i64 _) :: _) rfl ?_
  refine nn ?_
  refine cm_cond (by kernel_rfl) rfl (fun h11 => ?_) (fun h11 => ?_)
  ·refine sr ?_
   refine la 2 ((2, .int .i64 _) :: (25, .int .i64 _) :: _) rfl ?_
   refine nn ?_
   refine cm_ret ?_
   refine xm_thenR ?_
   exact xm_retT rfl (by kernel_rfl) (show _ = Value.int .i64 _ from rfl) fun w1 c1 => ⟨(), rfl, hsub [] (by kernel_rfl) rfl w1 c1⟩
  ·refine sk ?_
   refine cm_seq ?_
   refine sr ?_
   refine v_ 26 (fun _ _ => oF 3 3 rfl) ?_
   refine v_ 27 (fun _ c1 => oL (c1.cell 0 (u := .slice _ _ _) rfl rfl)) ?_
   refine la 1 ((28, .int .i64 _) :: _) rfl ?_
   refine lm_call 29 (V := (fun (r : Int) (_u : Unit) => .int .i64 r)) (HR := (fun (_r : Int) (_u : Unit) => [])) (by kernel_rfl) (fun w1 => op_call (by kernel_rfl)) (fun r1 hr1 w1 c1 => m_emptying_Check_ok N w1 p0.Emptyings (List.length p0.Containers : Int) (16 : Int) A_p04 n_p04 c_p04 (hr_p04.old c1) hz_p04 r1 hr1) ?_
   intro r12 u13
   refine la 1 ((6, .int .i64 _) :: _) rfl ?_
   refine nn ?_
   refine sr ?_
   refine la 2 ((31, .bool _) :: (30, .int .i64 _) :: _) rfl ?_
   refine nn ?_
   refine cm_cond (by kernel_rfl) rfl (fun h14 => ?_) (fun h14 => ?_)
   ·refine sr ?_
    refine la 2 ((2, .int .i64 _) :: (32, .int .i64 _) :: _) rfl ?_
    refine nn ?_
    refine cm_ret ?_
    refine xm_thenR ?_
    exact xm_retT rfl (by kernel_rfl) (show _ = Value.int .i64 _ from rfl) fun w1 c1 => ⟨(), rfl, hsub [] (by kernel_rfl) rfl w1 c1⟩
   ·refine sk ?_
    refine cm_seq ?_
    refine sr ?_
    refine v_ 33 (fun _ _ => oF 4 4 rfl) ?_
    refine v_ 34 (fun _ c1 => oL (c1.cell 0 (u := .slice _ _ _) rfl rfl)) ?_
    refine lm_call 35 (V := (fun (r : Int) (_u : Unit) => .int .i64 r)) (HR := (fun (_r : Int) (_u : Unit) => [])) (by kernel_rfl) (fun w1 => op_call (by kernel_rfl)) (fun r1 hr1 w1 c1 => m_tariff_Check_ok N w1 p0.Tariffs A_p05 n_p05 c_p05 (hr_p05.old c1) hz_p05 r1 hr1) ?_
    intro r15 u16
    refine la 1 ((7, .int .i64 _) :: _) rfl ?_
    refine nn ?_
    refine sr ?_
    refine la 2 ((37, .bool _) :: (36, .int .i64 _) :: _) rfl ?_
    refine nn ?_
    refine cm_cond (by kernel_rfl) rfl (fun h17 => ?_) (fun h17 => ?_)
    ·refine sr ?_
     refine la 2 ((2, .int .i64 _) :: (38, .int .i64 _) :: _) rfl ?_
     refine nn ?_
     refine cm_ret ?_
     refine xm_thenR ?_
     exact xm_retT rfl (by kernel_rfl) (show _ = Value.int .i64 _ from rfl) fun w1 c1 => ⟨(), rfl, hsub [] (by kernel_rfl) rfl w1 c1⟩
    ·refine sk ?_
     refine cm_seq ?_
     refine cm_seq ?_
     refine cm_cutE [(46, .bool ((decide (p0.Gap < 0)) || (decide (86400 < p0.Gap))))] ?_ ?_
     ·refine q_ 39 (fun _ _ => oF 5 5 rfl) ?_
      refine q_ 40 (fun _ c1 => oL (c1.cell 0 (u := .int .i64 _) rfl rfl)) ?_
      refine qd 41 (fun _ _ => op_lss rfl rfl) (fun h18 => ?_) (fun h18 => ?_)
      ·refine qa 5 ((46, .bool true) :: (45, undef) :: (44, undef) :: (43, undef) :: (42, .bool true) :: _) rfl ?_
       exact leaf_q (sub_out 8 _ rfl (by kernel_rfl) ⟨(congrArg Value.bool (by rw [decide_eq_true h18] <;> rfl)), trivial⟩)
      ·refine qa 1 ((42, .bool false) :: _) rfl ?_
       refine q_ 43 (fun _ _ => oF 5 5 rfl) ?_
       refine q_ 44 (fun _ c1 => oL (c1.cell 0 (u := .int .i64 _) rfl rfl)) ?_
       refine qa 2 ((46, .bool _) :: (45, .bool _) :: _) rfl ?_
       exact leaf_q (sub_out 8 _ rfl (by kernel_rfl) ⟨(congrArg Value.bool (by rw [decide_eq_false h18] <;> rfl)), trivial⟩)
     refine xm_next ?_
     refine cm_condB (by kernel_rfl) rfl (fun h19 => ?_) (fun h19 => ?_)
     ·refine sr ?_
      refine la 1 ((2, .int .i64 _) :: _) rfl ?_
      refine nn ?_
      refine cm_ret ?_
      refine xm_thenR ?_
      exact xm_retT rfl (by kernel_rfl) (show _ = Value.int .i64 _ from rfl) fun w1 c1 => ⟨(), rfl, hsub [] (by kernel_rfl) rfl w1 c1⟩
     ·refine sk ?_
      refine sr ?_
      refine la 1 ((2, .int .i64 _) :: _) rfl ?_
      refine nn ?_
      refine cm_ret ?_
      exact xm_retT rfl (by kernel_rfl) (show _ = Value.int .i64 _ from rfl) fun w1 c1 => ⟨(), rfl, hsub [] (by kernel_rfl) rfl w1 c1⟩
/-- bill.emptyings -/
def m_bill_emptyings (N : Nat) (p0 : ApiAccount) (p1 : Int) (p2 : ApiWindow) : Option ((List ApiItem) × Int) :=
 ck (I64 (p2.From * (86400 : Int))) (
  ck (I64 (p2.To * (86400 : Int))) (
   Option.bind (m_emptying_Of N p0.Emptyings p0.Assigns p1 (ApiWindow.mk (p2.From * (86400 : Int)) (p2.To * (86400 : Int))) p0.Gap) fun r9 => (if r9.2 ≠ 0 then
    some ((([] : List ApiItem), r9.2))
   else
    (andThen
     (loopM (fun (s159 : (List ApiItem) × Int) =>
      (if s159.2 < (List.length r9.1 : Int) then
       ck ((0 : Int) ≤ s159.2 ∧ s159.2 < (List.length r9.1 : Int)) (
        ck ((0 : Int) ≤ (ix r9.1 s159.2) ∧ (ix r9.1 s159.2) < (List.length p0.Emptyings : Int)) (
         ck (I64 ((ix p0.Emptyings (ix r9.1 s159.2)).At)) (
          Option.bind (m_tariff_At N p0.Tariffs (Int.tdiv ((ix p0.Emptyings (ix r9.1 s159.2)).At) 86400)) fun r166 => (if r166.2 ≠ 0 then
           some (.done (.done ((([] : List ApiItem), r166.2))))
          else
           ck ((0 : Int) ≤ r166.1 ∧ r166.1 < (List.length p0.Tariffs : Int)) (
            Option.bind (m_tariff_Items N (ix p0.Tariffs r166.1) (ix p0.Emptyings (ix r9.1 s159.2))) fun r170 => (if r170.2 ≠ 0 then
             some (.done (.done ((([] : List ApiItem), r170.2))))
            else
             ck ((List.length s159.1 + List.length r170.1) * 40 ≤ 140737488355328) (
              ck (I64 (s159.2 + (1 : Int))) (
               some (.next ((s159.1 ++ r170.1), (s159.2 + (1 : Int))))))))))))
      else
       some (.done (.next s159.1)))) N (([] : List ApiItem), (0 : Int)))
    fun (s99 : (List ApiItem)) =>
     some ((s99, (0 : Int)))))))
set_option maxHeartbeats 2000000 in
set_option maxRecDepth 20000 in
theorem m_bill_emptyings_ok (N : Nat) (w0 : World) (p0 : ApiAccount) (p1 : Int) (p2 : ApiWindow) (A_p01 : Option Addr) (n_p01 c_p01 : Nat) (A_p02 : Option Addr) (n_p02 c_p02 : Nat) (A_p03 : Option Addr) (n_p03 c_p03 : Nat) (A_p04 : Option Addr) (n_p04 c_p04 : Nat) (A_p05 : Option Addr) (n_p05 c_p05 : Nat) (_hr_p01 : RdE w0 2 encApiHousehold A_p01 p0.Households) (_hz_p01 : SW A_p01 n_p01 c_p01 (List.length p0.Households)) (_hr_p02 : RdE w0 5 encApiContainer A_p02 p0.Containers) (_hz_p02 : SW A_p02 n_p02 c_p02 (List.length p0.Containers)) (hr_p03 : RdE w0 4 encApiAssign A_p03 p0.Assigns) (hz_p03 : SW A_p03 n_p03 c_p03 (List.length p0.Assigns)) (hr_p04 : RdE w0 7 encApiEmptying A_p04 p0.Emptyings) (hz_p04 : SW A_p04 n_p04 c_p04 (List.length p0.Emptyings)) (hr_p05 : RdE w0 5 encApiTariff A_p05 p0.Tariffs) (hz_p05 : SW A_p05 n_p05 c_p05 (List.length p0.Tariffs)) (r : (List ApiItem) × Int) (hr : m_bill_emptyings N p0 p1 p2 = some r) :
  Ret Tryz.prog 41 [.agg #[.slice A_p01 n_p01 c_p01, .slice A_p02 n_p02 c_p02, .slice A_p03 n_p03 c_p03, .slice A_p04 n_p04 c_p04, .slice A_p05 n_p05 c_p05, .int .i64 p0.Gap], .int .i64 p1, .agg #[.int .i64 p2.From, .int .i64 p2.To]] w0 (fun (r : (List ApiItem) × Int) (u : (Option Addr) × Nat × Nat) => .tuple #[.slice u.1 u.2.1 u.2.2, .int .i64 r.2]) (fun (r : (List ApiItem) × Int) (u : (Option Addr) × Nat × Nat) => [ownE 66 5 encApiItem u.1 u.2.1 u.2.2 r.1]) r := by
 refine calls_v (n := 79) r hr Tryz.func41 ?_
 unfold m_bill_emptyings
 refine sr ?_
 refine lm_box 3 [.slice _ _ _, .slice _ _ _, .slice _ _ _, .slice _ _ _, .slice _ _ _, .int .i64 _] (by kernel_rfl) rfl ?_
 intro b5
 refine lm_box 5 [.int .i64 _, .int .i64 _] (by kernel_rfl) rfl ?_
 intro b6
 refine la 2 ((7, .int .i64 _) :: (6, .slice _ _ _) :: _) rfl ?_
 refine nn ?_
 refine sr ?_
 refine v_ 18 (fun _ _ => oF 3 3 rfl) ?_
 refine v_ 19 (fun _ c1 => oL (c1.cell 1 (u := .slice _ _ _) rfl rfl)) ?_
 refine v_ 20 (fun _ _ => oF 2 2 rfl) ?_
 refine v_ 21 (fun _ c1 => oL (c1.cell 1 (u := .slice _ _ _) rfl rfl)) ?_
 refine la 1 ((22, .int .i64 _) :: _) rfl ?_
 refine v_ 23 (fun _ _ => oF 0 0 rfl) ?_
 refine v_ 24 (fun _ c1 => oL (c1.cell 0 (u := .int .i64 _) rfl rfl)) ?_
 refine lm_ck (fun h7 => ?_)
 refine v_ 25 (fun _ _ => op_mul rfl rfl h7) ?_
 refine v_ 26 (fun _ _ => oF 1 1 rfl) ?_
 refine v_ 27 (fun _ c1 => oL (c1.cell 0 (u := .int .i64 _) rfl rfl)) ?_
 refine lm_ck (fun h8 => ?_)
 refine v_ 28 (fun _ _ => op_mul rfl rfl h8) ?_
 refine v_ 29 (fun _ _ => op_build (z := [.int .i64 0, .int .i64 0]) (tab := [(0, 1), (1, 1)]) (cs := [.int .i64 _, .int .i64 _]) [(0, [.int .i64 _]), (1, [.int .i64 _])] (by kernel_rfl) (by kernel_rfl) (fillOk_cons rfl rfl rfl (fillOk_cons rfl rfl rfl fillOk_nil)) rfl) ?_
 refine v_ 30 (fun _ _ => oF 5 5 rfl) ?_
 refine v_ 31 (fun _ c1 => oL (c1.cell 1 (u := .int .i64 _) rfl rfl)) ?_
 refine lm_call 32 (V := (fun (r : (List Int) × Int) (u : (Option Addr) × Nat × Nat) => .tuple #[.slice u.1 u.2.1 u.2.2, .int .i64 r.2])) (HR := (fun (r : (List Int) × Int) (u : (Option Addr) × Nat × Nat) => [ownE 3 1 encI u.1 u.2.1 u.2.2 r.1])) (by kernel_rfl) (fun w1 => op_call (by kernel_rfl)) (fun r1 hr1 w1 c1 => m_emptying_Of_ok N w1 p0.Emptyings p0.Assigns p1 (ApiWindow.mk (p2.From * (86400 : Int)) (p2.To * (86400 : Int))) p0.Gap A_p04 n_p04 c_p04 A_p03 n_p03 c_p03 (hr_p04.old c1) hz_p04 (hr_p03.old c1) hz_p03 r1 hr1) ?_
 intro r9 u10
 refine la 5 ((9, .int .i64 _) :: (8, .slice _ _ _) :: (34, .int .i64 _) :: (33, .slice _ _ _) :: (17, .tuple _) :: _) rfl ?_
 refine nn ?_
 refine cm_seq ?_
 refine sr ?_
 refine la 2 ((36, .bool _) :: (35, .int .i64 _) :: _) rfl ?_
 refine nn ?_
 refine cm_cond (by kernel_rfl) rfl (fun h11 => ?_) (fun h11 => ?_)
 ·refine sr ?_
  refine la 3 ((7, .int .i64 _) :: (6, .slice _ _ _) :: (37, .int .i64 _) :: _) rfl ?_
  refine nn ?_
  refine cm_ret ?_
  refine xm_thenR ?_
  refine xm_nilrow 66 5 encApiItem ?_
  exact xm_retTT rfl (by kernel_rfl) (show _ = Value.slice _ _ _ from rfl) (by kernel_rfl) (show _ = Value.int .i64 _ from rfl) fun w1 c1 => ⟨(none, 0, 0), rfl, hsub [0] (by kernel_rfl) rfl w1 c1⟩
 ·refine sk ?_
  refine sr ?_
  refine la 1 ((10, .slice _ _ _) :: _) rfl ?_
  refine nn ?_
  refine cm_join (σ := (List ApiItem)) (ξ := (Option Addr) × Nat × Nat) (fun s99 u100 => [(10, .slice u100.1 u100.2.1 u100.2.2)]) (fun s99 u100 => [ownE 66 5 encApiItem u100.1 u100.2.1 u100.2.2 s99]) ?_ ?_
  ·refine sr ?_
   refine la 1 ((38, .slice _ _ _) :: _) rfl ?_
   refine v_ 39 (fun _ c1 => op_lenN rfl (by kernel_rfl) (c1.ownZ 0 rfl).2.2) ?_
   refine la 1 ((40, .int .i64 _) :: _) rfl ?_
   refine nn ?_
   refine cm_block ?_
   refine cm_nilrow 66 5 encApiItem ?_
   refine cm_loop (σ := (List ApiItem) × Int) (ξ := (Option Addr) × Nat × Nat) (fun s159 u160 => [(3, .pointer (some ⟨b5, 0, none⟩)), (10, .slice u160.1 u160.2.1 u160.2.2), (38, .slice u10.1 u10.2.1 u10.2.2), (39, .int .i64 (List.length r9.1 : Int)), (40, .int .i64 s159.2)]) (fun s159 u160 => [blkE b5 28 [.slice A_p01 n_p01 c_p01, .slice A_p02 n_p02 c_p02, .slice A_p03 n_p03 c_p03, .slice A_p04 n_p04 c_p04, .slice A_p05 n_p05 c_p05, .int .i64 p0.Gap], ownE 66 5 encApiItem u160.1 u160.2.1 u160.2.2 s159.1, ownE 3 1 encI u10.1 u10.2.1 u10.2.2 r9.1]) (none, 0, 0) ?_ ?_ ?_
   ·exact sq
   ·exact sh [3, 0, 1]
   intro s159 u160
   refine sr ?_
   refine la 1 ((41, .bool _) :: _) rfl ?_
   refine nn ?_
   refine cm_seq ?_
   refine cm_cond (by kernel_rfl) rfl (fun h161 => ?_) (fun h161 => ?_)
   ·refine sk ?_
    refine cm_seq ?_
    refine cm_block ?_
    refine sr ?_
    refine lm_ck (fun h162 => ?_)
    refine v_ 42 (fun _ c1 => oI 1 rfl rfl ((c1.own 2 rfl encI_len).addr h162.1 h162.2) (c1.ownZ 2 rfl).2.2 h162) ?_
    refine v_ 43 (fun _ c1 => oL (v := .int .i64 (ix r9.1 s159.2)) ((c1.own 2 rfl encI_len).cell0 h162.1 h162.2 rfl)) ?_
    refine la 1 ((12, .int .i64 _) :: _) rfl ?_
    refine nn ?_
    refine sr ?_
    refine v_ 44 (fun _ _ => oF 3 3 rfl) ?_
    refine v_ 45 (fun _ c1 => oL (c1.cell 0 (u := .slice _ _ _) rfl rfl)) ?_
    refine la 1 ((46, .int .i64 _) :: _) rfl ?_
    refine lm_ck (fun h163 => ?_)
    refine v_ 47 (fun _ c1 => oI 7 rfl rfl ((hr_p04.old c1).addr h163.1 h163.2) hz_p04.2.2 h163) ?_
    refine v_ 48 (fun _ c1 => oR [.int .i64 ((ix p0.Emptyings (ix r9.1 s159.2)).ID), .int .i64 ((ix p0.Emptyings (ix r9.1 s159.2)).Container), .int .i64 ((ix p0.Emptyings (ix r9.1 s159.2)).Vehicle), .int .i64 ((ix p0.Emptyings (ix r9.1 s159.2)).At), .int .i64 ((ix p0.Emptyings (ix r9.1 s159.2)).Mass.Lo), .int .i64 ((ix p0.Emptyings (ix r9.1 s159.2)).Mass.Hi), .bool ((ix p0.Emptyings (ix r9.1 s159.2)).Void)] ((hr_p04.old c1).row h163.1 h163.2)) ?_
    refine lm_alloc 13 [.int .i64 0, .int .i64 0, .int .i64 0, .int .i64 0, .int .i64 0, .int .i64 0, .bool false] (v := .agg #[.int .i64 0, .int .i64 0, .int .i64 0, .int .i64 0, .int .i64 0, .int .i64 0, .bool false]) (by kernel_rfl) (by kernel_rfl) rfl ?_
    intro b164
    refine lm_storeA 0 [.int .i64 _, .int .i64 _, .int .i64 _, .int .i64 _, .int .i64 _, .int .i64 _, .bool _] [_, _, _, _, _, _, _] (H' := [blkE _ _ [_, _, _, _, _, _, _], _, _, _]) (by kernel_rfl) rfl rfl (by kernel_rfl) rfl rfl (by kernel_rfl) rfl rfl ?_
    refine nn ?_
    refine sr ?_
    refine v_ 50 (fun _ _ => oF 4 4 rfl) ?_
    refine v_ 51 (fun _ c1 => oL (c1.cell 1 (u := .slice _ _ _) rfl rfl)) ?_
    refine v_ 52 (fun _ _ => oF 3 3 rfl) ?_
    refine v_ 53 (fun _ c1 => oL (c1.cell 0 (u := .int .i64 _) rfl rfl)) ?_
    refine lm_ck (fun h165 => ?_)
    refine v_ 54 (fun _ _ => op_quoK rfl rfl (by kernel_rfl) h165) ?_
    refine lm_call 55 (V := (fun (r : Int × Int) (_u : Unit) => .tuple #[.int .i64 r.1, .int .i64 r.2])) (HR := (fun (_r : Int × Int) (_u : Unit) => [])) (by kernel_rfl) (fun w1 => op_call (by kernel_rfl)) (fun r1 hr1 w1 c1 => m_tariff_At_ok N w1 p0.Tariffs (Int.tdiv ((ix p0.Emptyings (ix r9.1 s159.2)).At) 86400) A_p05 n_p05 c_p05 (hr_p05.old c1) hz_p05 r1 hr1) ?_
    intro r166 u167
    refine la 5 ((15, .int .i64 _) :: (14, .int .i64 _) :: (57, .int .i64 _) :: (56, .int .i64 _) :: (49, .tuple _) :: _) rfl ?_
    refine nn ?_
    refine cm_seq ?_
    refine sr ?_
    refine la 2 ((59, .bool _) :: (58, .int .i64 _) :: _) rfl ?_
    refine nn ?_
    refine cm_cond (by kernel_rfl) rfl (fun h168 => ?_) (fun h168 => ?_)
    ·refine sr ?_
     refine la 3 ((7, .int .i64 _) :: (6, .slice _ _ _) :: (60, .int .i64 _) :: _) rfl ?_
     refine nn ?_
     refine cm_ret ?_
     refine xm_thenR ?_
     refine xm_inR ?_
     refine xm_thenR ?_
     refine xm_lret ?_
     refine xm_inR ?_
     refine xm_lret ?_
     refine xm_nilrow 66 5 encApiItem ?_
     exact xm_retTT rfl (by kernel_rfl) (show _ = Value.slice _ _ _ from rfl) (by kernel_rfl) (show _ = Value.int .i64 _ from rfl) fun w1 c1 => ⟨(none, 0, 0), rfl, hsub [0] (by kernel_rfl) rfl w1 c1⟩
    ·refine sk ?_
     refine cm_seq ?_
     refine cm_ck (fun h169 => ?_)
     refine cm_bind fun r170 h171 => ?_
     refine cm_held (ξ := (Option Addr) × Nat × Nat) (fun u175 => [(3, .pointer (some ⟨b5, 0, none⟩)), (10, .slice u160.1 u160.2.1 u160.2.2), (15, .int .i64 r170.2), (16, .slice u175.1 u175.2.1 u175.2.2), (38, .slice u10.1 u10.2.1 u10.2.2), (39, .int .i64 (List.length r9.1 : Int)), (40, .int .i64 s159.2)]) (fun u175 => [blkE b5 28 [.slice A_p01 n_p01 c_p01, .slice A_p02 n_p02 c_p02, .slice A_p03 n_p03 c_p03, .slice A_p04 n_p04 c_p04, .slice A_p05 n_p05 c_p05, .int .i64 p0.Gap], ownE 66 5 encApiItem u160.1 u160.2.1 u160.2.2 s159.1, ownE 66 5 encApiItem u175.1 u175.2.1 u175.2.2 r170.1, ownE 3 1 encI u10.1 u10.2.1 u10.2.2 r9.1]) [blkE b164 59 [.int .i64 ((ix p0.Emptyings (ix r9.1 s159.2)).ID), .int .i64 ((ix p0.Emptyings (ix r9.1 s159.2)).Container), .int .i64 ((ix p0.Emptyings (ix r9.1 s159.2)).Vehicle), .int .i64 ((ix p0.Emptyings (ix r9.1 s159.2)).At), .int .i64 ((ix p0.Emptyings (ix r9.1 s159.2)).Mass.Lo), .int .i64 ((ix p0.Emptyings (ix r9.1 s159.2)).Mass.Hi), .bool ((ix p0.Emptyings (ix r9.1 s159.2)).Void)], blkE b5 28 [.slice A_p01 n_p01 c_p01, .slice A_p02 n_p02 c_p02, .slice A_p03 n_p03 c_p03, .slice A_p04 n_p04 c_p04, .slice A_p05 n_p05 c_p05, .int .i64 p0.Gap], ownE 66 5 encApiItem u160.1 u160.2.1 u160.2.2 s159.1, ownE 3 1 encI u10.1 u10.2.1 u10.2.2 r9.1] 12 (by kernel_rfl) (by rfl) (hsub [0, 1, 2, 3] (by kernel_rfl) (by rfl)) ?_ ?_
     ·intro w177 c178
      refine wh_take 0 62 rfl (by kernel_rfl) (by kernel_rfl) (fun w2 c2 => (op_fieldL (m := 4) (k := 4) rfl (by kernel_rfl) rfl)) (hsub [0, 1, 2, 3] (by kernel_rfl) rfl _ c178) ?_
      refine wh_take 1 63 rfl (by kernel_rfl) (by kernel_rfl) (fun w2 c2 => (op_load rfl (by kernel_rfl) (c2.cell 1 (u := .slice _ _ _) rfl rfl))) (hsub [0, 1, 2, 3] (by kernel_rfl) rfl _ c178) ?_
      refine wh_take 2 64 rfl (by kernel_rfl) (by kernel_rfl) (fun w2 c2 => (op_move (v := .int .i64 _) rfl)) (hsub [0, 1, 2, 3] (by kernel_rfl) rfl _ c178) ?_
      refine wh_take 3 65 rfl (by kernel_rfl) (by kernel_rfl) (fun w2 c2 => (op_indexA 5 rfl rfl (by kernel_rfl) ((hr_p05.old c2).addr h169.1 h169.2) hz_p05.2.2 h169.1 h169.2)) (hsub [0, 1, 2, 3] (by kernel_rfl) rfl _ c178) ?_
      refine wh_take 4 66 rfl (by kernel_rfl) (by kernel_rfl) (fun w2 c2 => (op_loadR [.int .i64 ((ix p0.Tariffs r166.1).From), .int .i64 ((ix p0.Tariffs r166.1).Base), .int .i64 ((ix p0.Tariffs r166.1).Empty), .int .i64 ((ix p0.Tariffs r166.1).Kilo), .int .i64 ((ix p0.Tariffs r166.1).Free)] rfl (by kernel_rfl) ((hr_p05.old c2).row h169.1 h169.2))) (hsub [0, 1, 2, 3] (by kernel_rfl) rfl _ c178) ?_
      refine wh_take 5 67 rfl (by kernel_rfl) (by kernel_rfl) (fun w2 c2 => (op_loadR [.int .i64 _, .int .i64 _, .int .i64 _, .int .i64 _, .int .i64 _, .int .i64 _, .bool _] rfl (by kernel_rfl) (c2.cells 0 rfl rfl))) (hsub [0, 1, 2, 3] (by kernel_rfl) rfl _ c178) ?_
      refine wh_ready [6] (by kernel_rfl) rfl ⟨?_, trivial⟩
      refine ws_call 68 rfl (by kernel_rfl) (op_call (by kernel_rfl)) (m_tariff_Items_ok N _ (ix p0.Tariffs r166.1) (ix p0.Emptyings (ix r9.1 s159.2))  r170 h171) ?_
      rintro x w180 ⟨u179, rfl, c181⟩
      replace c181 := c178.call c181
      refine ⟨_, rfl, (hsub [1, 2, 3, 4] (by kernel_rfl) rfl _ c181), ?_⟩
      refine wh_strong (Hs w0 [ownE 66 5 encApiItem u179.1 u179.2.1 u179.2.2 r170.1, blkE b164 59 [.int .i64 ((ix p0.Emptyings (ix r9.1 s159.2)).ID), .int .i64 ((ix p0.Emptyings (ix r9.1 s159.2)).Container), .int .i64 ((ix p0.Emptyings (ix r9.1 s159.2)).Vehicle), .int .i64 ((ix p0.Emptyings (ix r9.1 s159.2)).At), .int .i64 ((ix p0.Emptyings (ix r9.1 s159.2)).Mass.Lo), .int .i64 ((ix p0.Emptyings (ix r9.1 s159.2)).Mass.Hi), .bool ((ix p0.Emptyings (ix r9.1 s159.2)).Void)], blkE b5 28 [.slice A_p01 n_p01 c_p01, .slice A_p02 n_p02 c_p02, .slice A_p03 n_p03 c_p03, .slice A_p04 n_p04 c_p04, .slice A_p05 n_p05 c_p05, .int .i64 p0.Gap], ownE 66 5 encApiItem u160.1 u160.2.1 u160.2.2 s159.1, ownE 3 1 encI u10.1 u10.2.1 u10.2.2 r9.1]) (fun w2 c2 => hsub [1, 2, 3, 4] (by kernel_rfl) rfl w2 c2) ?_
      refine wh_take 7 61 rfl (by kernel_rfl) (by kernel_rfl) (fun w2 c2 => (op_move (v := .tuple _) rfl)) (hsub [0, 1, 2, 3, 4] (by kernel_rfl) rfl _ c181) ?_
      refine wh_take 8 69 rfl (by kernel_rfl) (by kernel_rfl) (fun w2 c2 => (op_extract (v := .slice _ _ _) rfl rfl)) (hsub [0, 1, 2, 3, 4] (by kernel_rfl) rfl _ c181) ?_
      refine wh_take 9 70 rfl (by kernel_rfl) (by kernel_rfl) (fun w2 c2 => (op_extract (v := .int .i64 _) rfl rfl)) (hsub [0, 1, 2, 3, 4] (by kernel_rfl) rfl _ c181) ?_
      refine wh_take 10 16 rfl (by kernel_rfl) (by kernel_rfl) (fun w2 c2 => (op_assign (v := .slice _ _ _) rfl)) (hsub [0, 1, 2, 3, 4] (by kernel_rfl) rfl _ c181) ?_
      refine wh_take 11 15 rfl (by kernel_rfl) (by kernel_rfl) (fun w2 c2 => (op_assign (v := .int .i64 _) rfl)) (hsub [0, 1, 2, 3, 4] (by kernel_rfl) rfl _ c181) ?_
      exact wh_done (u179.1, u179.2.1, u179.2.2) (by kernel_rfl) sq (hsub [2, 3, 0, 4] (by kernel_rfl) rfl _ c181)
     intro u175
     refine xm_next ?_
     refine cm_seq ?_
     refine sr ?_
     refine la 2 ((72, .bool _) :: (71, .int .i64 _) :: _) rfl ?_
     refine nn ?_
     refine cm_cond (by kernel_rfl) rfl (fun h182 => ?_) (fun h182 => ?_)
     ·refine sr ?_
      refine la 3 ((7, .int .i64 _) :: (6, .slice _ _ _) :: (73, .int .i64 _) :: _) rfl ?_
      refine nn ?_
      refine cm_ret ?_
      refine xm_thenR ?_
      refine xm_inR ?_
      refine xm_thenR ?_
      refine xm_lret ?_
      refine xm_inR ?_
      refine xm_lret ?_
      refine xm_nilrow 66 5 encApiItem ?_
      exact xm_retTT rfl (by kernel_rfl) (show _ = Value.slice _ _ _ from rfl) (by kernel_rfl) (show _ = Value.int .i64 _ from rfl) fun w1 c1 => ⟨(none, 0, 0), rfl, hsub [0] (by kernel_rfl) rfl w1 c1⟩
     ·refine sk ?_
      refine cm_region ?_
      refine la 2 ((75, .slice _ _ _) :: (74, .slice _ _ _) :: _) rfl ?_
      refine lm_ck (fun h183 => ?_)
      refine lm_append 76 1 (el := 66) (sz := 5) (bytes := 40) (enc := encApiItem) (l2 := r170.1) (by kernel_rfl) (by kernel_rfl) encApiItem_len encApiItem_one rfl rfl rfl (fun w1 c1 => (c1.ownZ 2 rfl)) (fun w1 c1 => (c1.own 2 rfl encApiItem_len)) h183 ?_ (by kernel_rfl)
      intro A184 n185 k186
      refine la 1 ((10, .slice _ _ _) :: _) rfl ?_
      refine lm_nil ?_
      refine xm_inN ?_
      refine xm_next ?_
      refine cm_region ?_
      refine lm_ck (fun h187 => ?_)
      refine v_ 77 (fun _ _ => op_add rfl rfl h187) ?_
      refine la 1 ((40, .int .i64 _) :: _) rfl ?_
      refine lm_nil ?_
      exact xm_lnext (A184, n185, k186) sq (sh [0, 1, 3])
   ·refine cm_exit ?_
    refine xm_thenE ?_
    refine xm_lexit ?_
    refine xm_here ?_
    exact xm_lnext (u160.1, u160.2.1, u160.2.2) sq (sh [1])
  intro s99 u100
  refine sr ?_
  refine la 3 ((7, .int .i64 _) :: (6, .slice _ _ _) :: (78, .slice _ _ _) :: _) rfl ?_
  refine nn ?_
  refine cm_ret ?_
  exact xm_retTT rfl (by kernel_rfl) (show _ = Value.slice _ _ _ from rfl) (by kernel_rfl) (show _ = Value.int .i64 _ from rfl) fun w1 c1 => ⟨(u100.1, u100.2.1, u100.2.2), rfl, hsub [0] (by kernel_rfl) rfl w1 c1⟩
/-- bill.sum -/
def m_bill_sum (N : Nat) (p0 : (List ApiItem)) : Option (Int) :=
 (andThen
  (loopM (fun (s42 : Int × Int) =>
   (if s42.2 < (List.length p0 : Int) then
    ck ((0 : Int) ≤ s42.2 ∧ s42.2 < (List.length p0 : Int)) (
     ck (I64 (s42.1 + ((ix p0 s42.2).Amount))) (
      ck (I64 (s42.2 + (1 : Int))) (
       some (.next ((s42.1 + ((ix p0 s42.2).Amount)), (s42.2 + (1 : Int)))))))
   else
    some (.done (.next s42.1)))) N ((0 : Int), (0 : Int)))
 fun (s26 : Int) =>
  some (s26))
set_option maxRecDepth 20000 in
theorem m_bill_sum_ok (N : Nat) (w0 : World) (p0 : (List ApiItem)) (A_p0 : Option Addr) (n_p0 c_p0 : Nat) (hr_p0 : RdE w0 5 encApiItem A_p0 p0) (hz_p0 : SW A_p0 n_p0 c_p0 (List.length p0)) (r : Int) (hr : m_bill_sum N p0 = some r) :
  Ret Tryz.prog 42 [.slice A_p0 n_p0 c_p0] w0 (fun (r : Int) (_u : Unit) => .int .i64 r) (fun (_r : Int) (_u : Unit) => []) r := by
 refine calls_v (n := 18) r hr Tryz.func42 ?_
 unfold m_bill_sum
 refine sr ?_
 refine la 1 ((2, .int .i64 _) :: _) rfl ?_
 refine nn ?_
 refine sr ?_
 refine la 1 ((3, .int .i64 _) :: _) rfl ?_
 refine nn ?_
 refine cm_join (σ := Int) (ξ := Unit) (fun s26 u27 => [(3, .int .i64 s26)]) (fun s26 u27 => []) ?_ ?_
 ·refine sr ?_
  refine la 1 ((6, .slice _ _ _) :: _) rfl ?_
  refine v_ 7 (fun _ _ => op_lenN rfl (by kernel_rfl) hz_p0.2.2) ?_
  refine la 1 ((8, .int .i64 _) :: _) rfl ?_
  refine nn ?_
  refine cm_block ?_
  refine cm_loop (σ := Int × Int) (ξ := Unit) (fun s42 u43 => [(3, .int .i64 s42.1), (6, .slice A_p0 n_p0 c_p0), (7, .int .i64 (List.length p0 : Int)), (8, .int .i64 s42.2)]) (fun s42 u43 => []) () ?_ ?_ ?_
  ·exact sq
  ·exact sh []
  intro s42 u43
  refine sr ?_
  refine la 1 ((9, .bool _) :: _) rfl ?_
  refine nn ?_
  refine cm_seq ?_
  refine cm_cond (by kernel_rfl) rfl (fun h44 => ?_) (fun h44 => ?_)
  ·refine sk ?_
   refine cm_seq ?_
   refine cm_block ?_
   refine sr ?_
   refine lm_ck (fun h45 => ?_)
   refine v_ 10 (fun _ c1 => oI 5 rfl rfl ((hr_p0.old c1).addr h45.1 h45.2) hz_p0.2.2 h45) ?_
   refine v_ 11 (fun _ c1 => oR [.int .i64 ((ix p0 s42.2).Kind), .int .i64 ((ix p0 s42.2).Ref), .int .i64 ((ix p0 s42.2).Count), .int .i64 ((ix p0 s42.2).Price), .int .i64 ((ix p0 s42.2).Amount)] ((hr_p0.old c1).row h45.1 h45.2)) ?_
   refine lm_alloc 5 [.int .i64 0, .int .i64 0, .int .i64 0, .int .i64 0, .int .i64 0] (v := .agg #[.int .i64 0, .int .i64 0, .int .i64 0, .int .i64 0, .int .i64 0]) (by kernel_rfl) (by kernel_rfl) rfl ?_
   intro b46
   refine lm_storeA 0 [.int .i64 _, .int .i64 _, .int .i64 _, .int .i64 _, .int .i64 _] [_, _, _, _, _] (H' := [blkE _ _ [_, _, _, _, _]]) (by kernel_rfl) rfl rfl (by kernel_rfl) rfl rfl (by kernel_rfl) rfl rfl ?_
   refine nn ?_
   refine cm_region ?_
   refine la 1 ((12, .int .i64 _) :: _) rfl ?_
   refine v_ 13 (fun _ _ => oF 4 4 rfl) ?_
   refine v_ 14 (fun _ c1 => oL (c1.cell 0 (u := .int .i64 _) rfl rfl)) ?_
   refine lm_ck (fun h47 => ?_)
   refine v_ 15 (fun _ _ => op_add rfl rfl h47) ?_
   refine la 1 ((3, .int .i64 _) :: _) rfl ?_
   refine lm_nil ?_
   refine xm_inN ?_
   refine xm_next ?_
   refine cm_region ?_
   refine lm_ck (fun h48 => ?_)
   refine v_ 16 (fun _ _ => op_add rfl rfl h48) ?_
   refine la 1 ((8, .int .i64 _) :: _) rfl ?_
   refine lm_nil ?_
   exact xm_lnext () sq (sh [])
  ·refine cm_exit ?_
   refine xm_thenE ?_
   refine xm_lexit ?_
   refine xm_here ?_
   exact xm_lnext () sq (sh [])
 intro s26 u27
 refine sr ?_
 refine la 2 ((2, .int .i64 _) :: (17, .int .i64 _) :: _) rfl ?_
 refine nn ?_
 refine cm_ret ?_
 exact xm_retT rfl (by kernel_rfl) (show _ = Value.int .i64 _ from rfl) fun w1 c1 => ⟨(), rfl, hsub [] (by kernel_rfl) rfl w1 c1⟩
/-- bill.Make -/
def m_bill_Make (N : Nat) (p0 : ApiAccount) (p1 : Int) (p2 : Int) (p3 : ApiWindow) : Option (ApiBill × Int) :=
 Option.bind (m_bill_Check N p0) fun r8 => (if r8 ≠ 0 then
  some (((ApiBill.mk 0 0 (ApiWindow.mk 0 0) ([] : List ApiItem) 0), r8))
 else
  (if ((decide (p1 < 1)) || (decide (1000000 < p1))) = true then
   some (((ApiBill.mk 0 0 (ApiWindow.mk 0 0) ([] : List ApiItem) 0), (1 : Int)))
  else
   (if ((decide (p2 < 0)) || (decide ((List.length p0.Households : Int) ≤ p2))) = true then
    some (((ApiBill.mk 0 0 (ApiWindow.mk 0 0) ([] : List ApiItem) 0), (7 : Int)))
   else
    (if (((decide (p3.From < 0)) || (decide (p3.To < p3.From))) || (decide (36525 < p3.To))) = true then
     some (((ApiBill.mk 0 0 (ApiWindow.mk 0 0) ([] : List ApiItem) 0), (1 : Int)))
    else
     Option.bind (m_tariff_Base N p0.Tariffs p3) fun r18 => (if r18.2 ≠ 0 then
      some (((ApiBill.mk 0 0 (ApiWindow.mk 0 0) ([] : List ApiItem) 0), r18.2))
     else
      Option.bind (m_bill_emptyings N p0 p2 p3) fun r21 => (if r21.2 ≠ 0 then
       some (((ApiBill.mk 0 0 (ApiWindow.mk 0 0) ([] : List ApiItem) 0), r21.2))
      else
       ck ((List.length r18.1 + List.length r21.1) * 40 ≤ 140737488355328) (
        (if 512 < (List.length (r18.1 ++ r21.1) : Int) then
         some (((ApiBill.mk 0 0 (ApiWindow.mk 0 0) ([] : List ApiItem) 0), (8 : Int)))
        else
         Option.bind (m_bill_sum N (r18.1 ++ r21.1)) fun r29 => (if 1000000000000 < r29 then
          some (((ApiBill.mk 0 0 (ApiWindow.mk 0 0) ([] : List ApiItem) 0), (2 : Int)))
         else
          some (((ApiBill.mk p1 p2 p3 (r18.1 ++ r21.1) r29), (0 : Int))))))))))))
set_option maxHeartbeats 2000000 in
set_option maxRecDepth 20000 in
theorem m_bill_Make_ok (N : Nat) (w0 : World) (p0 : ApiAccount) (p1 : Int) (p2 : Int) (p3 : ApiWindow) (A_p01 : Option Addr) (n_p01 c_p01 : Nat) (A_p02 : Option Addr) (n_p02 c_p02 : Nat) (A_p03 : Option Addr) (n_p03 c_p03 : Nat) (A_p04 : Option Addr) (n_p04 c_p04 : Nat) (A_p05 : Option Addr) (n_p05 c_p05 : Nat) (hr_p01 : RdE w0 2 encApiHousehold A_p01 p0.Households) (hz_p01 : SW A_p01 n_p01 c_p01 (List.length p0.Households)) (hr_p02 : RdE w0 5 encApiContainer A_p02 p0.Containers) (hz_p02 : SW A_p02 n_p02 c_p02 (List.length p0.Containers)) (hr_p03 : RdE w0 4 encApiAssign A_p03 p0.Assigns) (hz_p03 : SW A_p03 n_p03 c_p03 (List.length p0.Assigns)) (hr_p04 : RdE w0 7 encApiEmptying A_p04 p0.Emptyings) (hz_p04 : SW A_p04 n_p04 c_p04 (List.length p0.Emptyings)) (hr_p05 : RdE w0 5 encApiTariff A_p05 p0.Tariffs) (hz_p05 : SW A_p05 n_p05 c_p05 (List.length p0.Tariffs)) (r : ApiBill × Int) (hr : m_bill_Make N p0 p1 p2 p3 = some r) :
  Ret Tryz.prog 16 [.agg #[.slice A_p01 n_p01 c_p01, .slice A_p02 n_p02 c_p02, .slice A_p03 n_p03 c_p03, .slice A_p04 n_p04 c_p04, .slice A_p05 n_p05 c_p05, .int .i64 p0.Gap], .int .i64 p1, .int .i64 p2, .agg #[.int .i64 p3.From, .int .i64 p3.To]] w0 (fun (r : ApiBill × Int) (u : (Option Addr) × Nat × Nat) => .tuple #[.agg #[.int .i64 r.1.ID, .int .i64 r.1.Household, .int .i64 r.1.When.From, .int .i64 r.1.When.To, .slice u.1 u.2.1 u.2.2, .int .i64 r.1.Total], .int .i64 r.2]) (fun (r : ApiBill × Int) (u : (Option Addr) × Nat × Nat) => [ownE 66 5 encApiItem u.1 u.2.1 u.2.2 r.1.Items]) r := by
 refine calls_v (n := 98) r hr Tryz.func16 ?_
 unfold m_bill_Make
 refine sr ?_
 refine lm_box 4 [.slice _ _ _, .slice _ _ _, .slice _ _ _, .slice _ _ _, .slice _ _ _, .int .i64 _] (by kernel_rfl) rfl ?_
 intro b5
 refine lm_box 7 [.int .i64 _, .int .i64 _] (by kernel_rfl) rfl ?_
 intro b6
 refine lm_alloc 8 [.int .i64 0, .int .i64 0, .int .i64 0, .int .i64 0, .slice none 0 0, .int .i64 0] (v := .agg #[.int .i64 0, .int .i64 0, .int .i64 0, .int .i64 0, .slice none 0 0, .int .i64 0]) (by kernel_rfl) (by kernel_rfl) rfl ?_
 intro b7
 refine la 1 ((9, .int .i64 _) :: _) rfl ?_
 refine nn ?_
 refine cm_seq ?_
 refine sr ?_
 refine v_ 15 (fun _ c1 => oR [.slice _ _ _, .slice _ _ _, .slice _ _ _, .slice _ _ _, .slice _ _ _, .int .i64 _] (c1.cells 2 rfl rfl)) ?_
 refine lm_call 16 (V := (fun (r : Int) (_u : Unit) => .int .i64 r)) (HR := (fun (_r : Int) (_u : Unit) => [])) (by kernel_rfl) (fun w1 => op_call (by kernel_rfl)) (fun r1 hr1 w1 c1 => m_bill_Check_ok N w1 p0 A_p01 n_p01 c_p01 A_p02 n_p02 c_p02 A_p03 n_p03 c_p03 A_p04 n_p04 c_p04 A_p05 n_p05 c_p05 (hr_p01.old c1) hz_p01 (hr_p02.old c1) hz_p02 (hr_p03.old c1) hz_p03 (hr_p04.old c1) hz_p04 (hr_p05.old c1) hz_p05 r1 hr1) ?_
 intro r8 u9
 refine la 1 ((10, .int .i64 _) :: _) rfl ?_
 refine nn ?_
 refine sr ?_
 refine la 2 ((18, .bool _) :: (17, .int .i64 _) :: _) rfl ?_
 refine nn ?_
 refine cm_cond (by kernel_rfl) rfl (fun h10 => ?_) (fun h10 => ?_)
 ·refine sr ?_
  refine v_ 19 (fun _ _ => op_build (z := [.int .i64 0, .int .i64 0, .int .i64 0, .int .i64 0, .slice none 0 0, .int .i64 0]) (tab := [(0, 1), (1, 1), (2, 2), (4, 1), (5, 1)]) (cs := [.int .i64 _, .int .i64 _, .int .i64 _, .int .i64 _, .slice _ _ _, .int .i64 _]) [] (by kernel_rfl) (by kernel_rfl) fillOk_nil rfl) ?_
  refine la 1 ((20, .int .i64 _) :: _) rfl ?_
  refine lm_storeA 0 [.int .i64 _, .int .i64 _, .int .i64 _, .int .i64 _, .slice _ _ _, .int .i64 _] [_, _, _, _, _, _] (H' := [blkE _ _ [_, _, _, _, _, _], _, _]) (by kernel_rfl) rfl rfl (by kernel_rfl) rfl rfl (by kernel_rfl) rfl rfl ?_
  refine la 1 ((9, .int .i64 _) :: _) rfl ?_
  refine nn ?_
  refine cm_ret ?_
  refine xm_thenR ?_
  refine xm_nilrow 66 5 encApiItem ?_
  exact xm_retCT rfl (by kernel_rfl) (show _ = Value.pointer (some ⟨_, 0, none⟩) from rfl) (by kernel_rfl) (fun w1 c1 => c1.cells 1 (ds := [.int .i64 _, .int .i64 _, .int .i64 _, .int .i64 _, .slice _ _ _, .int .i64 _]) rfl rfl) (by kernel_rfl) (show _ = Value.int .i64 _ from rfl) fun w1 c1 => ⟨(none, 0, 0), rfl, hsub [0] (by kernel_rfl) rfl w1 c1⟩
 ·refine sk ?_
  refine cm_seq ?_
  refine cm_block ?_
  refine cm_seq ?_
  refine cm_cutE [(21, .bool ((decide (p1 < 1)) || (decide (1000000 < p1))))] ?_ ?_
  ·refine qa 1 ((22, .int .i64 _) :: _) rfl ?_
   refine qd 23 (fun _ _ => op_lss rfl rfl) (fun h11 => ?_) (fun h11 => ?_)
   ·refine qa 5 ((21, .bool true) :: (27, .bool true) :: (26, undef) :: (25, undef) :: (24, .bool true) :: _) rfl ?_
    exact leaf_q (sub_out 7 _ rfl (by kernel_rfl) ⟨(congrArg Value.bool (by rw [decide_eq_true h11] <;> rfl)), trivial⟩)
   ·refine qa 5 ((21, .bool _) :: (27, .bool _) :: (26, .bool _) :: (25, .int .i64 _) :: (24, .bool false) :: _) rfl ?_
    exact leaf_q (sub_out 7 _ rfl (by kernel_rfl) ⟨(congrArg Value.bool (by rw [decide_eq_false h11] <;> rfl)), trivial⟩)
  refine xm_next ?_
  refine cm_condB (by kernel_rfl) rfl (fun h12 => ?_) (fun h12 => ?_)
  ·refine sr ?_
   refine v_ 28 (fun _ _ => op_build (z := [.int .i64 0, .int .i64 0, .int .i64 0, .int .i64 0, .slice none 0 0, .int .i64 0]) (tab := [(0, 1), (1, 1), (2, 2), (4, 1), (5, 1)]) (cs := [.int .i64 _, .int .i64 _, .int .i64 _, .int .i64 _, .slice _ _ _, .int .i64 _]) [] (by kernel_rfl) (by kernel_rfl) fillOk_nil rfl) ?_
   refine lm_storeA 0 [.int .i64 _, .int .i64 _, .int .i64 _, .int .i64 _, .slice _ _ _, .int .i64 _] [_, _, _, _, _, _] (H' := [blkE _ _ [_, _, _, _, _, _], _, _]) (by kernel_rfl) rfl rfl (by kernel_rfl) rfl rfl (by kernel_rfl) rfl rfl ?_
   refine la 1 ((9, .int .i64 _) :: _) rfl ?_
   refine nn ?_
   refine cm_ret ?_
   refine xm_inR ?_
   refine xm_thenR ?_
   refine xm_nilrow 66 5 encApiItem ?_
   exact xm_retCT rfl (by kernel_rfl) (show _ = Value.pointer (some ⟨_, 0, none⟩) from rfl) (by kernel_rfl) (fun w1 c1 => c1.cells 1 (ds := [.int .i64 _, .int .i64 _, .int .i64 _, .int .i64 _, .slice _ _ _, .int .i64 _]) rfl rfl) (by kernel_rfl) (show _ = Value.int .i64 _ from rfl) fun w1 c1 => ⟨(none, 0, 0), rfl, hsub [0] (by kernel_rfl) rfl w1 c1⟩
  ·refine cm_seq ?_
   refine cm_cutE [(29, .bool ((decide (p2 < 0)) || (decide ((List.length p0.Households : Int) ≤ p2))))] ?_ ?_
   ·refine qa 1 ((30, .int .i64 _) :: _) rfl ?_
    refine qd 31 (fun _ _ => op_lss rfl rfl) (fun h13 => ?_) (fun h13 => ?_)
    ·refine qa 8 ((29, .bool true) :: (38, .bool true) :: (37, undef) :: (36, undef) :: (35, undef) :: (34, undef) :: (33, undef) :: (32, .bool true) :: _) rfl ?_
     exact leaf_q (sub_out 10 _ rfl (by kernel_rfl) ⟨(congrArg Value.bool (by rw [decide_eq_true h13] <;> rfl)), trivial⟩)
    ·refine qa 2 ((33, .int .i64 _) :: (32, .bool false) :: _) rfl ?_
     refine q_ 34 (fun _ _ => oF 0 0 rfl) ?_
     refine q_ 35 (fun _ c1 => oL (c1.cell 2 (u := .slice _ _ _) rfl rfl)) ?_
     refine q_ 36 (fun _ _ => op_lenN rfl (by kernel_rfl) hz_p01.2.2) ?_
     refine qa 3 ((29, .bool _) :: (38, .bool _) :: (37, .bool _) :: _) rfl ?_
     exact leaf_q (sub_out 10 _ rfl (by kernel_rfl) ⟨(congrArg Value.bool (by rw [decide_eq_false h13] <;> rfl)), trivial⟩)
   refine xm_next ?_
   refine cm_condB (by kernel_rfl) rfl (fun h14 => ?_) (fun h14 => ?_)
   ·refine sr ?_
    refine v_ 39 (fun _ _ => op_build (z := [.int .i64 0, .int .i64 0, .int .i64 0, .int .i64 0, .slice none 0 0, .int .i64 0]) (tab := [(0, 1), (1, 1), (2, 2), (4, 1), (5, 1)]) (cs := [.int .i64 _, .int .i64 _, .int .i64 _, .int .i64 _, .slice _ _ _, .int .i64 _]) [] (by kernel_rfl) (by kernel_rfl) fillOk_nil rfl) ?_
    refine lm_storeA 0 [.int .i64 _, .int .i64 _, .int .i64 _, .int .i64 _, .slice _ _ _, .int .i64 _] [_, _, _, _, _, _] (H' := [blkE _ _ [_, _, _, _, _, _], _, _]) (by kernel_rfl) rfl rfl (by kernel_rfl) rfl rfl (by kernel_rfl) rfl rfl ?_
    refine la 1 ((9, .int .i64 _) :: _) rfl ?_
    refine nn ?_
    refine cm_ret ?_
    refine xm_inR ?_
    refine xm_thenR ?_
    refine xm_nilrow 66 5 encApiItem ?_
    exact xm_retCT rfl (by kernel_rfl) (show _ = Value.pointer (some ⟨_, 0, none⟩) from rfl) (by kernel_rfl) (fun w1 c1 => c1.cells 1 (ds := [.int .i64 _, .int .i64 _, .int .i64 _, .int .i64 _, .slice _ _ _, .int .i64 _]) rfl rfl) (by kernel_rfl) (show _ = Value.int .i64 _ from rfl) fun w1 c1 => ⟨(none, 0, 0), rfl, hsub [0] (by kernel_rfl) rfl w1 c1⟩
   ·refine cm_seq ?_
    refine cm_cutE [(40, .bool (((decide (p3.From < 0)) || (decide (p3.To < p3.From))) || (decide (36525 < p3.To))))] ?_ ?_
    ·refine q_ 41 (fun _ _ => oF 0 0 rfl) ?_
     refine q_ 42 (fun _ c1 => oL (c1.cell 1 (u := .int .i64 _) rfl rfl)) ?_
     refine qd 43 (fun _ _ => op_lss rfl rfl) (fun h15 => ?_) (fun h15 => ?_)
     ·refine qa 13 ((40, .bool true) :: (55, .bool true) :: (54, undef) :: (53, undef) :: (52, undef) :: (51, .bool true) :: (50, .bool true) :: (49, undef) :: (48, undef) :: (47, undef) :: (46, undef) :: (45, undef) :: (44, .bool true) :: _) rfl ?_
      exact leaf_q (sub_out 16 _ rfl (by kernel_rfl) ⟨(congrArg Value.bool (by rw [decide_eq_true h15] <;> rfl)), trivial⟩)
     ·refine qa 1 ((44, .bool false) :: _) rfl ?_
      refine q_ 45 (fun _ _ => oF 0 0 rfl) ?_
      refine q_ 46 (fun _ c1 => oL (c1.cell 1 (u := .int .i64 _) rfl rfl)) ?_
      refine q_ 47 (fun _ _ => oF 1 1 rfl) ?_
      refine q_ 48 (fun _ c1 => oL (c1.cell 1 (u := .int .i64 _) rfl rfl)) ?_
      refine qd 49 (fun _ _ => op_gtr rfl rfl) (fun h16 => ?_) (fun h16 => ?_)
      ·refine qa 7 ((40, .bool true) :: (55, .bool true) :: (54, undef) :: (53, undef) :: (52, undef) :: (51, .bool true) :: (50, .bool true) :: _) rfl ?_
       exact leaf_q (sub_out 16 _ rfl (by kernel_rfl) ⟨(congrArg Value.bool (by rw [decide_eq_false h15, decide_eq_true h16] <;> rfl)), trivial⟩)
      ·refine qa 2 ((51, .bool false) :: (50, .bool false) :: _) rfl ?_
       refine q_ 52 (fun _ _ => oF 1 1 rfl) ?_
       refine q_ 53 (fun _ c1 => oL (c1.cell 1 (u := .int .i64 _) rfl rfl)) ?_
       refine qa 3 ((40, .bool _) :: (55, .bool _) :: (54, .bool _) :: _) rfl ?_
       exact leaf_q (sub_out 16 _ rfl (by kernel_rfl) ⟨(congrArg Value.bool (by rw [decide_eq_false h15, decide_eq_false h16] <;> rfl)), trivial⟩)
    refine xm_next ?_
    refine cm_condB (by kernel_rfl) rfl (fun h17 => ?_) (fun h17 => ?_)
    ·refine sr ?_
     refine v_ 56 (fun _ _ => op_build (z := [.int .i64 0, .int .i64 0, .int .i64 0, .int .i64 0, .slice none 0 0, .int .i64 0]) (tab := [(0, 1), (1, 1), (2, 2), (4, 1), (5, 1)]) (cs := [.int .i64 _, .int .i64 _, .int .i64 _, .int .i64 _, .slice _ _ _, .int .i64 _]) [] (by kernel_rfl) (by kernel_rfl) fillOk_nil rfl) ?_
     refine lm_storeA 0 [.int .i64 _, .int .i64 _, .int .i64 _, .int .i64 _, .slice _ _ _, .int .i64 _] [_, _, _, _, _, _] (H' := [blkE _ _ [_, _, _, _, _, _], _, _]) (by kernel_rfl) rfl rfl (by kernel_rfl) rfl rfl (by kernel_rfl) rfl rfl ?_
     refine la 1 ((9, .int .i64 _) :: _) rfl ?_
     refine nn ?_
     refine cm_ret ?_
     refine xm_inR ?_
     refine xm_thenR ?_
     refine xm_nilrow 66 5 encApiItem ?_
     exact xm_retCT rfl (by kernel_rfl) (show _ = Value.pointer (some ⟨_, 0, none⟩) from rfl) (by kernel_rfl) (fun w1 c1 => c1.cells 1 (ds := [.int .i64 _, .int .i64 _, .int .i64 _, .int .i64 _, .slice _ _ _, .int .i64 _]) rfl rfl) (by kernel_rfl) (show _ = Value.int .i64 _ from rfl) fun w1 c1 => ⟨(none, 0, 0), rfl, hsub [0] (by kernel_rfl) rfl w1 c1⟩
    ·refine cm_skip ?_
     refine xm_inN ?_
     refine xm_next ?_
     refine sr ?_
     refine v_ 58 (fun _ _ => oF 4 4 rfl) ?_
     refine v_ 59 (fun _ c1 => oL (c1.cell 2 (u := .slice _ _ _) rfl rfl)) ?_
     refine v_ 60 (fun _ c1 => oR [.int .i64 _, .int .i64 _] (c1.cells 1 rfl rfl)) ?_
     refine lm_call 61 (V := (fun (r : (List ApiItem) × Int) (u : (Option Addr) × Nat × Nat) => .tuple #[.slice u.1 u.2.1 u.2.2, .int .i64 r.2])) (HR := (fun (r : (List ApiItem) × Int) (u : (Option Addr) × Nat × Nat) => [ownE 66 5 encApiItem u.1 u.2.1 u.2.2 r.1])) (by kernel_rfl) (fun w1 => op_call (by kernel_rfl)) (fun r1 hr1 w1 c1 => m_tariff_Base_ok N w1 p0.Tariffs p3 A_p05 n_p05 c_p05 (hr_p05.old c1) hz_p05 r1 hr1) ?_
     intro r18 u19
     refine la 5 ((12, .int .i64 _) :: (11, .slice _ _ _) :: (63, .int .i64 _) :: (62, .slice _ _ _) :: (57, .tuple _) :: _) rfl ?_
     refine nn ?_
     refine cm_seq ?_
     refine sr ?_
     refine la 2 ((65, .bool _) :: (64, .int .i64 _) :: _) rfl ?_
     refine nn ?_
     refine cm_cond (by kernel_rfl) rfl (fun h20 => ?_) (fun h20 => ?_)
     ·refine sr ?_
      refine v_ 66 (fun _ _ => op_build (z := [.int .i64 0, .int .i64 0, .int .i64 0, .int .i64 0, .slice none 0 0, .int .i64 0]) (tab := [(0, 1), (1, 1), (2, 2), (4, 1), (5, 1)]) (cs := [.int .i64 _, .int .i64 _, .int .i64 _, .int .i64 _, .slice _ _ _, .int .i64 _]) [] (by kernel_rfl) (by kernel_rfl) fillOk_nil rfl) ?_
      refine la 1 ((67, .int .i64 _) :: _) rfl ?_
      refine lm_storeA 1 [.int .i64 _, .int .i64 _, .int .i64 _, .int .i64 _, .slice _ _ _, .int .i64 _] [_, _, _, _, _, _] (H' := [_, blkE _ _ [_, _, _, _, _, _], _, _]) (by kernel_rfl) rfl rfl (by kernel_rfl) rfl rfl (by kernel_rfl) rfl rfl ?_
      refine la 1 ((9, .int .i64 _) :: _) rfl ?_
      refine nn ?_
      refine cm_ret ?_
      refine xm_thenR ?_
      refine xm_nilrow 66 5 encApiItem ?_
      exact xm_retCT rfl (by kernel_rfl) (show _ = Value.pointer (some ⟨_, 0, none⟩) from rfl) (by kernel_rfl) (fun w1 c1 => c1.cells 2 (ds := [.int .i64 _, .int .i64 _, .int .i64 _, .int .i64 _, .slice _ _ _, .int .i64 _]) rfl rfl) (by kernel_rfl) (show _ = Value.int .i64 _ from rfl) fun w1 c1 => ⟨(none, 0, 0), rfl, hsub [0] (by kernel_rfl) rfl w1 c1⟩
     ·refine sk ?_
      refine sr ?_
      refine v_ 69 (fun _ c1 => oR [.slice _ _ _, .slice _ _ _, .slice _ _ _, .slice _ _ _, .slice _ _ _, .int .i64 _] (c1.cells 3 rfl rfl)) ?_
      refine la 1 ((70, .int .i64 _) :: _) rfl ?_
      refine v_ 71 (fun _ c1 => oR [.int .i64 _, .int .i64 _] (c1.cells 2 rfl rfl)) ?_
      refine lm_call 72 (V := (fun (r : (List ApiItem) × Int) (u : (Option Addr) × Nat × Nat) => .tuple #[.slice u.1 u.2.1 u.2.2, .int .i64 r.2])) (HR := (fun (r : (List ApiItem) × Int) (u : (Option Addr) × Nat × Nat) => [ownE 66 5 encApiItem u.1 u.2.1 u.2.2 r.1])) (by kernel_rfl) (fun w1 => op_call (by kernel_rfl)) (fun r1 hr1 w1 c1 => m_bill_emptyings_ok N w1 p0 p2 p3 A_p01 n_p01 c_p01 A_p02 n_p02 c_p02 A_p03 n_p03 c_p03 A_p04 n_p04 c_p04 A_p05 n_p05 c_p05 (hr_p01.old c1) hz_p01 (hr_p02.old c1) hz_p02 (hr_p03.old c1) hz_p03 (hr_p04.old c1) hz_p04 (hr_p05.old c1) hz_p05 r1 hr1) ?_
      intro r21 u22
      refine la 5 ((12, .int .i64 _) :: (13, .slice _ _ _) :: (74, .int .i64 _) :: (73, .slice _ _ _) :: (68, .tuple _) :: _) rfl ?_
      refine nn ?_
      refine cm_seq ?_
      refine sr ?_
      refine la 2 ((76, .bool _) :: (75, .int .i64 _) :: _) rfl ?_
      refine nn ?_
      refine cm_cond (by kernel_rfl) rfl (fun h23 => ?_) (fun h23 => ?_)
      ·refine sr ?_
       refine v_ 77 (fun _ _ => op_build (z := [.int .i64 0, .int .i64 0, .int .i64 0, .int .i64 0, .slice none 0 0, .int .i64 0]) (tab := [(0, 1), (1, 1), (2, 2), (4, 1), (5, 1)]) (cs := [.int .i64 _, .int .i64 _, .int .i64 _, .int .i64 _, .slice _ _ _, .int .i64 _]) [] (by kernel_rfl) (by kernel_rfl) fillOk_nil rfl) ?_
       refine la 1 ((78, .int .i64 _) :: _) rfl ?_
       refine lm_storeA 2 [.int .i64 _, .int .i64 _, .int .i64 _, .int .i64 _, .slice _ _ _, .int .i64 _] [_, _, _, _, _, _] (H' := [_, _, blkE _ _ [_, _, _, _, _, _], _, _]) (by kernel_rfl) rfl rfl (by kernel_rfl) rfl rfl (by kernel_rfl) rfl rfl ?_
       refine la 1 ((9, .int .i64 _) :: _) rfl ?_
       refine nn ?_
       refine cm_ret ?_
       refine xm_thenR ?_
       refine xm_nilrow 66 5 encApiItem ?_
       exact xm_retCT rfl (by kernel_rfl) (show _ = Value.pointer (some ⟨_, 0, none⟩) from rfl) (by kernel_rfl) (fun w1 c1 => c1.cells 3 (ds := [.int .i64 _, .int .i64 _, .int .i64 _, .int .i64 _, .slice _ _ _, .int .i64 _]) rfl rfl) (by kernel_rfl) (show _ = Value.int .i64 _ from rfl) fun w1 c1 => ⟨(none, 0, 0), rfl, hsub [0] (by kernel_rfl) rfl w1 c1⟩
      ·refine sk ?_
       refine sr ?_
       refine la 2 ((80, .slice _ _ _) :: (79, .slice _ _ _) :: _) rfl ?_
       refine lm_ck (fun h24 => ?_)
       refine lm_append 81 1 (el := 66) (sz := 5) (bytes := 40) (enc := encApiItem) (l2 := r21.1) (by kernel_rfl) (by kernel_rfl) encApiItem_len encApiItem_one rfl rfl rfl (fun w1 c1 => (c1.ownZ 0 rfl)) (fun w1 c1 => (c1.own 0 rfl encApiItem_len)) h24 ?_ (by kernel_rfl)
       intro A25 n26 k27
       refine la 1 ((11, .slice _ _ _) :: _) rfl ?_
       refine nn ?_
       refine cm_seq ?_
       refine sr ?_
       refine la 1 ((82, .slice _ _ _) :: _) rfl ?_
       refine v_ 83 (fun _ c1 => op_lenN rfl (by kernel_rfl) (c1.ownZ 1 rfl).2.2) ?_
       refine la 1 ((84, .bool _) :: _) rfl ?_
       refine nn ?_
       refine cm_cond (by kernel_rfl) rfl (fun h28 => ?_) (fun h28 => ?_)
       ·refine sr ?_
        refine v_ 85 (fun _ _ => op_build (z := [.int .i64 0, .int .i64 0, .int .i64 0, .int .i64 0, .slice none 0 0, .int .i64 0]) (tab := [(0, 1), (1, 1), (2, 2), (4, 1), (5, 1)]) (cs := [.int .i64 _, .int .i64 _, .int .i64 _, .int .i64 _, .slice _ _ _, .int .i64 _]) [] (by kernel_rfl) (by kernel_rfl) fillOk_nil rfl) ?_
        refine lm_storeA 2 [.int .i64 _, .int .i64 _, .int .i64 _, .int .i64 _, .slice _ _ _, .int .i64 _] [_, _, _, _, _, _] (H' := [_, _, blkE _ _ [_, _, _, _, _, _], _, _]) (by kernel_rfl) rfl rfl (by kernel_rfl) rfl rfl (by kernel_rfl) rfl rfl ?_
        refine la 1 ((9, .int .i64 _) :: _) rfl ?_
        refine nn ?_
        refine cm_ret ?_
        refine xm_thenR ?_
        refine xm_nilrow 66 5 encApiItem ?_
        exact xm_retCT rfl (by kernel_rfl) (show _ = Value.pointer (some ⟨_, 0, none⟩) from rfl) (by kernel_rfl) (fun w1 c1 => c1.cells 3 (ds := [.int .i64 _, .int .i64 _, .int .i64 _, .int .i64 _, .slice _ _ _, .int .i64 _]) rfl rfl) (by kernel_rfl) (show _ = Value.int .i64 _ from rfl) fun w1 c1 => ⟨(none, 0, 0), rfl, hsub [0] (by kernel_rfl) rfl w1 c1⟩
       ·refine sk ?_
        refine cm_seq ?_
        refine cm_bind fun r29 h30 => ?_
        refine cm_held (ξ := Nat) (fun u52 => [(8, .pointer (some ⟨b7, 0, none⟩)), (14, .pointer (some ⟨u52, 0, none⟩))]) (fun u52 => [blkE b7 39 [.int .i64 0, .int .i64 0, .int .i64 0, .int .i64 0, .slice none 0 0, .int .i64 0], blkE u52 39 [.int .i64 p1, .int .i64 p2, .int .i64 p3.From, .int .i64 p3.To, .slice A25 n26 k27, .int .i64 r29], ownE 66 5 encApiItem A25 n26 k27 (r18.1 ++ r21.1)]) [ownE 66 5 encApiItem u22.1 u22.2.1 u22.2.2 r21.1, ownE 66 5 encApiItem A25 n26 k27 (r18.1 ++ r21.1), blkE b7 39 [.int .i64 0, .int .i64 0, .int .i64 0, .int .i64 0, .slice none 0 0, .int .i64 0], blkE b6 34 [.int .i64 p3.From, .int .i64 p3.To], blkE b5 28 [.slice A_p01 n_p01 c_p01, .slice A_p02 n_p02 c_p02, .slice A_p03 n_p03 c_p03, .slice A_p04 n_p04 c_p04, .slice A_p05 n_p05 c_p05, .int .i64 p0.Gap]] 9 (by kernel_rfl) (by rfl) (hsub [0, 1, 2, 3, 4] (by kernel_rfl) (by rfl)) ?_ ?_
        ·intro w54 c55
         refine wh_take 0 86 rfl (by kernel_rfl) (by kernel_rfl) (fun w2 c2 => (op_move (v := .int .i64 _) rfl)) (hsub [0, 1, 2, 3, 4] (by kernel_rfl) rfl _ c55) ?_
         refine wh_take 1 87 rfl (by kernel_rfl) (by kernel_rfl) (fun w2 c2 => (op_move (v := .int .i64 _) rfl)) (hsub [0, 1, 2, 3, 4] (by kernel_rfl) rfl _ c55) ?_
         refine wh_take 2 88 rfl (by kernel_rfl) (by kernel_rfl) (fun w2 c2 => (op_loadR [.int .i64 _, .int .i64 _] rfl (by kernel_rfl) (c2.cells 3 rfl rfl))) (hsub [0, 1, 2, 3, 4] (by kernel_rfl) rfl _ c55) ?_
         refine wh_take 3 89 rfl (by kernel_rfl) (by kernel_rfl) (fun w2 c2 => (op_move (v := .slice _ _ _) rfl)) (hsub [0, 1, 2, 3, 4] (by kernel_rfl) rfl _ c55) ?_
         refine wh_take 4 90 rfl (by kernel_rfl) (by kernel_rfl) (fun w2 c2 => (op_move (v := .slice _ _ _) rfl)) (hsub [0, 1, 2, 3, 4] (by kernel_rfl) rfl _ c55) ?_
         refine wh_ready [5, 7] (by kernel_rfl) rfl ⟨?_, ?_, trivial⟩
         ·refine ws_call 91 rfl (by kernel_rfl) (op_call (by kernel_rfl)) (m_bill_sum_ok N _ (r18.1 ++ r21.1) A25 n26 k27 (c55.own 1 rfl encApiItem_len) (c55.ownZ 1 rfl) r29 h30) ?_
          rintro x w57 ⟨u56, rfl, c58⟩
          replace c58 := c55.call c58
          refine ⟨_, rfl, (hsub [0, 1, 2, 3, 4] (by kernel_rfl) rfl _ c58), ?_⟩
          refine wh_take 6 92 rfl (by kernel_rfl) (by kernel_rfl) (fun w2 c2 => (op_build (z := [.int .i64 0, .int .i64 0, .int .i64 0, .int .i64 0, .slice none 0 0, .int .i64 0]) (tab := [(0, 1), (1, 1), (2, 2), (4, 1), (5, 1)]) (cs := [.int .i64 _, .int .i64 _, .int .i64 _, .int .i64 _, .slice _ _ _, .int .i64 _]) [(0, [.int .i64 _]), (1, [.int .i64 _]), (2, [.int .i64 _, .int .i64 _]), (4, [.slice _ _ _]), (5, [.int .i64 _])] (by kernel_rfl) (by kernel_rfl) (fillOk_cons rfl rfl rfl (fillOk_cons rfl rfl rfl (fillOk_cons rfl rfl rfl (fillOk_cons rfl rfl rfl (fillOk_cons rfl rfl rfl fillOk_nil))))) rfl)) (hsub [0, 1, 2, 3, 4] (by kernel_rfl) rfl _ c58) ?_
          refine wh_ready [7] (by kernel_rfl) rfl ⟨?_, trivial⟩
          refine ws_alloc 14 [.int .i64 0, .int .i64 0, .int .i64 0, .int .i64 0, .slice none 0 0, .int .i64 0] (v := .agg #[.int .i64 0, .int .i64 0, .int .i64 0, .int .i64 0, .slice none 0 0, .int .i64 0]) rfl (by kernel_rfl) (by kernel_rfl) rfl c58 ?_
          intro b59 w60 c61
          refine ⟨(hsub [1, 2, 3, 4, 5] (by kernel_rfl) rfl _ c61), ?_⟩
          refine wh_ready [8] (by kernel_rfl) rfl ⟨?_, trivial⟩
          refine ws_storeA 0 [.int .i64 _, .int .i64 _, .int .i64 _, .int .i64 _, .slice _ _ _, .int .i64 _] [_, _, _, _, _, _] rfl (by kernel_rfl) rfl rfl (by kernel_rfl) rfl rfl (by kernel_rfl) rfl (H' := [blkE _ _ [_, _, _, _, _, _], _, _, _, _, _]) rfl c61 ?_
          intro w62 c63
          refine ⟨(hsub [1, 2, 3, 4, 5] (by kernel_rfl) rfl _ c63), ?_⟩
          exact wh_done b59 (by kernel_rfl) sq (hsub [3, 0, 2] (by kernel_rfl) rfl _ c63)
         ·refine ws_alloc 14 [.int .i64 0, .int .i64 0, .int .i64 0, .int .i64 0, .slice none 0 0, .int .i64 0] (v := .agg #[.int .i64 0, .int .i64 0, .int .i64 0, .int .i64 0, .slice none 0 0, .int .i64 0]) rfl (by kernel_rfl) (by kernel_rfl) rfl c55 ?_
          intro b64 w65 c66
          refine ⟨(hsub [1, 2, 3, 4, 5] (by kernel_rfl) rfl _ c66), ?_⟩
          refine wh_ready [5] (by kernel_rfl) rfl ⟨?_, trivial⟩
          refine ws_call 91 rfl (by kernel_rfl) (op_call (by kernel_rfl)) (m_bill_sum_ok N _ (r18.1 ++ r21.1) A25 n26 k27 (c66.own 2 rfl encApiItem_len) (c66.ownZ 2 rfl) r29 h30) ?_
          rintro x w68 ⟨u67, rfl, c69⟩
          replace c69 := c66.call c69
          refine ⟨_, rfl, (hsub [1, 2, 3, 4, 5] (by kernel_rfl) rfl _ c69), ?_⟩
          refine wh_take 6 92 rfl (by kernel_rfl) (by kernel_rfl) (fun w2 c2 => (op_build (z := [.int .i64 0, .int .i64 0, .int .i64 0, .int .i64 0, .slice none 0 0, .int .i64 0]) (tab := [(0, 1), (1, 1), (2, 2), (4, 1), (5, 1)]) (cs := [.int .i64 _, .int .i64 _, .int .i64 _, .int .i64 _, .slice _ _ _, .int .i64 _]) [(0, [.int .i64 _]), (1, [.int .i64 _]), (2, [.int .i64 _, .int .i64 _]), (4, [.slice _ _ _]), (5, [.int .i64 _])] (by kernel_rfl) (by kernel_rfl) (fillOk_cons rfl rfl rfl (fillOk_cons rfl rfl rfl (fillOk_cons rfl rfl rfl (fillOk_cons rfl rfl rfl (fillOk_cons rfl rfl rfl fillOk_nil))))) rfl)) (hsub [1, 2, 3, 4, 5] (by kernel_rfl) rfl _ c69) ?_
          refine wh_ready [8] (by kernel_rfl) rfl ⟨?_, trivial⟩
          refine ws_storeA 0 [.int .i64 _, .int .i64 _, .int .i64 _, .int .i64 _, .slice _ _ _, .int .i64 _] [_, _, _, _, _, _] rfl (by kernel_rfl) rfl rfl (by kernel_rfl) rfl rfl (by kernel_rfl) rfl (H' := [blkE _ _ [_, _, _, _, _, _], _, _, _, _, _]) rfl c69 ?_
          intro w70 c71
          refine ⟨(hsub [1, 2, 3, 4, 5] (by kernel_rfl) rfl _ c71), ?_⟩
          exact wh_done b64 (by kernel_rfl) sq (hsub [3, 0, 2] (by kernel_rfl) rfl _ c71)
        intro u52
        refine xm_next ?_
        refine cm_seq ?_
        refine sr ?_
        refine v_ 93 (fun _ _ => oF 5 5 rfl) ?_
        refine v_ 94 (fun _ c1 => oL (c1.cell 1 (u := .int .i64 _) rfl rfl)) ?_
        refine la 1 ((95, .bool _) :: _) rfl ?_
        refine nn ?_
        refine cm_cond (by kernel_rfl) rfl (fun h72 => ?_) (fun h72 => ?_)
        ·refine sr ?_
         refine v_ 96 (fun _ _ => op_build (z := [.int .i64 0, .int .i64 0, .int .i64 0, .int .i64 0, .slice none 0 0, .int .i64 0]) (tab := [(0, 1), (1, 1), (2, 2), (4, 1), (5, 1)]) (cs := [.int .i64 _, .int .i64 _, .int .i64 _, .int .i64 _, .slice _ _ _, .int .i64 _]) [] (by kernel_rfl) (by kernel_rfl) fillOk_nil rfl) ?_
         refine lm_storeA 0 [.int .i64 _, .int .i64 _, .int .i64 _, .int .i64 _, .slice _ _ _, .int .i64 _] [_, _, _, _, _, _] (H' := [blkE _ _ [_, _, _, _, _, _], _, _]) (by kernel_rfl) rfl rfl (by kernel_rfl) rfl rfl (by kernel_rfl) rfl rfl ?_
         refine la 1 ((9, .int .i64 _) :: _) rfl ?_
         refine nn ?_
         refine cm_ret ?_
         refine xm_thenR ?_
         refine xm_nilrow 66 5 encApiItem ?_
         exact xm_retCT rfl (by kernel_rfl) (show _ = Value.pointer (some ⟨_, 0, none⟩) from rfl) (by kernel_rfl) (fun w1 c1 => c1.cells 1 (ds := [.int .i64 _, .int .i64 _, .int .i64 _, .int .i64 _, .slice _ _ _, .int .i64 _]) rfl rfl) (by kernel_rfl) (show _ = Value.int .i64 _ from rfl) fun w1 c1 => ⟨(none, 0, 0), rfl, hsub [0] (by kernel_rfl) rfl w1 c1⟩
        ·refine sk ?_
         refine sr ?_
         refine v_ 97 (fun _ c1 => oR [.int .i64 _, .int .i64 _, .int .i64 _, .int .i64 _, .slice _ _ _, .int .i64 _] (c1.cells 1 rfl rfl)) ?_
         refine lm_storeA 0 [.int .i64 _, .int .i64 _, .int .i64 _, .int .i64 _, .slice _ _ _, .int .i64 _] [_, _, _, _, _, _] (H' := [blkE _ _ [_, _, _, _, _, _], _, _]) (by kernel_rfl) rfl rfl (by kernel_rfl) rfl rfl (by kernel_rfl) rfl rfl ?_
         refine la 1 ((9, .int .i64 _) :: _) rfl ?_
         refine nn ?_
         refine cm_ret ?_
         exact xm_retCT rfl (by kernel_rfl) (show _ = Value.pointer (some ⟨_, 0, none⟩) from rfl) (by kernel_rfl) (fun w1 c1 => c1.cells 0 (ds := [.int .i64 _, .int .i64 _, .int .i64 _, .int .i64 _, .slice _ _ _, .int .i64 _]) rfl rfl) (by kernel_rfl) (show _ = Value.int .i64 _ from rfl) fun w1 c1 => ⟨(A25, n26, k27), rfl, hsub [2] (by kernel_rfl) rfl w1 c1⟩
/-- bill.money -/
def m_bill_money (_N : Nat) (p0 : Int) : Option (Bool) :=
 some (((decide (-1000000000000 ≤ p0)) && (decide (p0 ≤ 1000000000000))))
set_option maxRecDepth 20000 in
theorem m_bill_money_ok (N : Nat) (w0 : World) (p0 : Int)   (r : Bool) (hr : m_bill_money N p0 = some r) :
  Ret Tryz.prog 48 [.int .i64 p0] w0 (fun (r : Bool) (_u : Unit) => .bool r) (fun (_r : Bool) (_u : Unit) => []) r := by
 refine calls_v (n := 9) r hr Tryz.func48 ?_
 unfold m_bill_money
 refine sr ?_
 refine la 1 ((2, .bool false) :: _) rfl ?_
 refine nn ?_
 refine cm_seq ?_
 refine cm_cutE [(2, .bool ((decide (-1000000000000 ≤ p0)) && (decide (p0 ≤ 1000000000000))))] ?_ ?_
 ·refine qa 1 ((3, .int .i64 _) :: _) rfl ?_
  refine qd 4 (fun _ _ => op_geq rfl rfl) (fun h5 => ?_) (fun h5 => ?_)
  ·refine qa 5 ((2, .bool _) :: (8, .bool _) :: (7, .bool _) :: (6, .int .i64 _) :: (5, .bool true) :: _) rfl ?_
   exact leaf_q (sub_out 7 _ rfl (by kernel_rfl) ⟨(congrArg Value.bool (by rw [decide_eq_true h5] <;> rfl)), trivial⟩)
  ·refine qa 5 ((2, .bool false) :: (8, .bool false) :: (7, undef) :: (6, undef) :: (5, .bool false) :: _) rfl ?_
   exact leaf_q (sub_out 7 _ rfl (by kernel_rfl) ⟨(congrArg Value.bool (by rw [decide_eq_false h5] <;> rfl)), trivial⟩)
 refine xm_next ?_
 refine cm_ret ?_
 exact xm_retT rfl (by kernel_rfl) (show _ = Value.bool _ from rfl) fun w1 c1 => ⟨(), rfl, hsub [] (by kernel_rfl) rfl w1 c1⟩
/-- bill.Credit$1 -/
def m_bill_Credit_1 (N : Nat) (p0 : ApiItem) : Option (Bool) :=
 Option.bind (m_bill_money N p0.Amount) fun r6 => some ((!r6))
set_option maxRecDepth 20000 in
theorem m_bill_Credit_1_ok (N : Nat) (w0 : World) (p0 : ApiItem)   (r : Bool) (hr : m_bill_Credit_1 N p0 = some r) :
  Ret Tryz.prog 50 [.agg #[.int .i64 p0.Kind, .int .i64 p0.Ref, .int .i64 p0.Count, .int .i64 p0.Price, .int .i64 p0.Amount]] w0 (fun (r : Bool) (_u : Unit) => .bool r) (fun (_r : Bool) (_u : Unit) => []) r := by
 refine calls_v (n := 7) r hr Tryz.func50 ?_
 unfold m_bill_Credit_1
 refine sr ?_
 refine lm_box 1 [.int .i64 _, .int .i64 _, .int .i64 _, .int .i64 _, .int .i64 _] (by kernel_rfl) rfl ?_
 intro b5
 refine la 1 ((2, .bool false) :: _) rfl ?_
 refine nn ?_
 refine sr ?_
 refine v_ 3 (fun _ _ => oF 4 4 rfl) ?_
 refine v_ 4 (fun _ c1 => oL (c1.cell 0 (u := .int .i64 _) rfl rfl)) ?_
 refine lm_call 5 (V := (fun (r : Bool) (_u : Unit) => .bool r)) (HR := (fun (_r : Bool) (_u : Unit) => [])) (by kernel_rfl) (fun w1 => op_call (by kernel_rfl)) (fun r1 hr1 w1 c1 => m_bill_money_ok N w1 p0.Amount  r1 hr1) ?_
 intro r6 u7
 refine la 2 ((2, .bool _) :: (6, .bool _) :: _) rfl ?_
 refine nn ?_
 refine cm_ret ?_
 exact xm_retT rfl (by kernel_rfl) (show _ = Value.bool _ from rfl) fun w1 c1 => ⟨(), rfl, hsub [] (by kernel_rfl) rfl w1 c1⟩
/-- slices.IndexFunc -/
def m_slices_IndexFunc_bill_Credit_1 (N : Nat) (p0 : (List ApiItem)) : Option (Int) :=
 (andThen
  (loopM (fun (s47 : Int) =>
   (if s47 < (List.length p0 : Int) then
    ck ((0 : Int) ≤ s47 ∧ s47 < (List.length p0 : Int)) (
     Option.bind (m_bill_Credit_1 N (ix p0 s47)) fun r51 => (if r51 = true then
      some (.done (.done (s47)))
     else
      ck (I64 (s47 + (1 : Int))) (
       some (.next (s47 + (1 : Int))))))
   else
    some (.done (.next ())))) N (0 : Int))
 fun (_s29 : Unit) =>
  some ((-1 : Int)))
set_option maxRecDepth 20000 in
theorem m_slices_IndexFunc_bill_Credit_1_ok (N : Nat) (w0 : World) (p0 : (List ApiItem)) (A_p0 : Option Addr) (n_p0 c_p0 : Nat) (hr_p0 : RdE w0 5 encApiItem A_p0 p0) (hz_p0 : SW A_p0 n_p0 c_p0 (List.length p0)) (r : Int) (hr : m_slices_IndexFunc_bill_Credit_1 N p0 = some r) :
  Ret Tryz.prog 89 [.slice A_p0 n_p0 c_p0, .func (.func 50) #[] #[]] w0 (fun (r : Int) (_u : Unit) => .int .i64 r) (fun (_r : Int) (_u : Unit) => []) r := by
 refine calls_v (n := 19) r hr Tryz.func89 ?_
 unfold m_slices_IndexFunc_bill_Credit_1
 refine sr ?_
 refine la 1 ((4, .int .i64 _) :: _) rfl ?_
 refine nn ?_
 refine cm_join (σ := Unit) (ξ := Unit) (fun s29 u30 => []) (fun s29 u30 => []) ?_ ?_
 ·refine sr ?_
  refine la 1 ((6, .slice _ _ _) :: _) rfl ?_
  refine v_ 7 (fun _ _ => op_lenN rfl (by kernel_rfl) hz_p0.2.2) ?_
  refine la 1 ((8, .int .i64 _) :: _) rfl ?_
  refine nn ?_
  refine cm_block ?_
  refine cm_loop (σ := Int) (ξ := Unit) (fun s47 u48 => [(0, .slice A_p0 n_p0 c_p0), (1, .func (.func 50) #[] #[]), (7, .int .i64 (List.length p0 : Int)), (8, .int .i64 s47)]) (fun s47 u48 => []) () ?_ ?_ ?_
  ·exact sq
  ·exact sh []
  intro s47 u48
  refine sr ?_
  refine la 1 ((9, .bool _) :: _) rfl ?_
  refine nn ?_
  refine cm_seq ?_
  refine cm_cond (by kernel_rfl) rfl (fun h49 => ?_) (fun h49 => ?_)
  ·refine sk ?_
   refine cm_seq ?_
   refine cm_block ?_
   refine sr ?_
   refine la 2 ((5, .int .i64 _) :: (10, .int .i64 _) :: _) rfl ?_
   refine nn ?_
   refine sr ?_
   refine la 3 ((13, .int .i64 _) :: (12, .slice _ _ _) :: (11, .func _ _ _) :: _) rfl ?_
   refine lm_ck (fun h50 => ?_)
   refine v_ 14 (fun _ c1 => oI 5 rfl rfl ((hr_p0.old c1).addr h50.1 h50.2) hz_p0.2.2 h50) ?_
   refine v_ 15 (fun _ c1 => oR [.int .i64 ((ix p0 s47).Kind), .int .i64 ((ix p0 s47).Ref), .int .i64 ((ix p0 s47).Count), .int .i64 ((ix p0 s47).Price), .int .i64 ((ix p0 s47).Amount)] ((hr_p0.old c1).row h50.1 h50.2)) ?_
   refine lm_call 16 (V := (fun (r : Bool) (_u : Unit) => .bool r)) (HR := (fun (_r : Bool) (_u : Unit) => [])) (by kernel_rfl) (fun w1 => op_callv rfl (by kernel_rfl)) (fun r1 hr1 w1 c1 => m_bill_Credit_1_ok N w1 (ix p0 s47)  r1 hr1) ?_
   intro r51 u52
   refine nn ?_
   refine cm_condB (by kernel_rfl) rfl (fun h53 => ?_) (fun h53 => ?_)
   ·refine sr ?_
    refine la 2 ((4, .int .i64 _) :: (17, .int .i64 _) :: _) rfl ?_
    refine nn ?_
    refine cm_ret ?_
    refine xm_inR ?_
    refine xm_thenR ?_
    refine xm_lret ?_
    refine xm_inR ?_
    refine xm_lret ?_
    exact xm_retT rfl (by kernel_rfl) (show _ = Value.int .i64 _ from rfl) fun w1 c1 => ⟨(), rfl, hsub [] (by kernel_rfl) rfl w1 c1⟩
   ·refine cm_skip ?_
    refine xm_inN ?_
    refine xm_next ?_
    refine cm_region ?_
    refine lm_ck (fun h54 => ?_)
    refine v_ 18 (fun _ _ => op_add rfl rfl h54) ?_
    refine la 1 ((8, .int .i64 _) :: _) rfl ?_
    refine lm_nil ?_
    exact xm_lnext () sq (sh [])
  ·refine cm_exit ?_
   refine xm_thenE ?_
   refine xm_lexit ?_
   refine xm_here ?_
   exact xm_lnext () sub_nil (sh [])
 intro s29 u30
 refine sr ?_
 refine la 1 ((4, .int .i64 _) :: _) rfl ?_
 refine nn ?_
 refine cm_ret ?_
 exact xm_retT rfl (by kernel_rfl) (show _ = Value.int .i64 _ from rfl) fun w1 c1 => ⟨(), rfl, hsub [] (by kernel_rfl) rfl w1 c1⟩
/-- slices.ContainsFunc -/
def m_slices_ContainsFunc_bill_Credit_1 (N : Nat) (p0 : (List ApiItem)) : Option (Bool) :=
 Option.bind (m_slices_IndexFunc_bill_Credit_1 N p0) fun r5 => some ((decide (0 ≤ r5)))
set_option maxRecDepth 20000 in
theorem m_slices_ContainsFunc_bill_Credit_1_ok (N : Nat) (w0 : World) (p0 : (List ApiItem)) (A_p0 : Option Addr) (n_p0 c_p0 : Nat) (hr_p0 : RdE w0 5 encApiItem A_p0 p0) (hz_p0 : SW A_p0 n_p0 c_p0 (List.length p0)) (r : Bool) (hr : m_slices_ContainsFunc_bill_Credit_1 N p0 = some r) :
  Ret Tryz.prog 49 [.slice A_p0 n_p0 c_p0, .func (.func 50) #[] #[]] w0 (fun (r : Bool) (_u : Unit) => .bool r) (fun (_r : Bool) (_u : Unit) => []) r := by
 refine calls_v (n := 9) r hr Tryz.func49 ?_
 unfold m_slices_ContainsFunc_bill_Credit_1
 refine sr ?_
 refine la 1 ((4, .bool false) :: _) rfl ?_
 refine nn ?_
 refine sr ?_
 refine la 2 ((6, .func _ _ _) :: (5, .slice _ _ _) :: _) rfl ?_
 refine lm_call 7 (V := (fun (r : Int) (_u : Unit) => .int .i64 r)) (HR := (fun (_r : Int) (_u : Unit) => [])) (by kernel_rfl) (fun w1 => op_call (by kernel_rfl)) (fun r1 hr1 w1 c1 => m_slices_IndexFunc_bill_Credit_1_ok N w1 p0 A_p0 n_p0 c_p0 (hr_p0.old c1) hz_p0 r1 hr1) ?_
 intro r5 u6
 refine la 2 ((4, .bool _) :: (8, .bool _) :: _) rfl ?_
 refine nn ?_
 refine cm_ret ?_
 exact xm_retT rfl (by kernel_rfl) (show _ = Value.bool _ from rfl) fun w1 c1 => ⟨(), rfl, hsub [] (by kernel_rfl) rfl w1 c1⟩
/-- bill.account -/
def m_bill_account (N : Nat) (p0 : (List ApiItem)) (p1 : Int) : Option (Int × Int × Bool) :=
 (andThen
  (loopM (fun (s147 : Int × Int × Bool × Int) =>
   (if s147.2.2.2 < (List.length p0 : Int) then
    (andThen
     (ck ((0 : Int) ≤ s147.2.2.2 ∧ s147.2.2.2 < (List.length p0 : Int)) (
      (if (ix p0 s147.2.2.2).Ref ≠ p1 then
       some (.next (s147.1, s147.2.1, s147.2.2.1))
      else
       (andThen
        (if (ix p0 s147.2.2.2).Kind = 2 then
         some (.next true)
        else
         (if (ix p0 s147.2.2.2).Kind = 3 then
          some (.next s147.2.2.1)
         else
          (if (ix p0 s147.2.2.2).Kind = 4 then
           (Option.map Step.done
            (some (.next (s147.1, (wr64 (s147.2.1 - ((ix p0 s147.2.2.2).Amount))), s147.2.2.1))))
          else
           some (.done (.next (s147.1, s147.2.1, s147.2.2.1))))))
       fun (s169 : Bool) =>
        some (.next ((wr64 (s147.1 + ((ix p0 s147.2.2.2).Amount))), s147.2.1, s169))))))
    fun (s161 : Int × Int × Bool) =>
     ck (I64 (s147.2.2.2 + (1 : Int))) (
      some (.next (s161.1, s161.2.1, s161.2.2, (s147.2.2.2 + (1 : Int))))))
   else
    some (.done (.next (s147.1, s147.2.1, s147.2.2.1))))) N ((0 : Int), (0 : Int), false, (0 : Int)))
 fun (s89 : Int × Int × Bool) =>
  some ((s89.1, s89.2.1, s89.2.2)))
set_option maxHeartbeats 2000000 in
set_option maxRecDepth 20000 in
theorem m_bill_account_ok (N : Nat) (w0 : World) (p0 : (List ApiItem)) (p1 : Int) (A_p0 : Option Addr) (n_p0 c_p0 : Nat) (hr_p0 : RdE w0 5 encApiItem A_p0 p0) (hz_p0 : SW A_p0 n_p0 c_p0 (List.length p0)) (r : Int × Int × Bool) (hr : m_bill_account N p0 p1 = some r) :
  Ret Tryz.prog 51 [.slice A_p0 n_p0 c_p0, .int .i64 p1] w0 (fun (r : Int × Int × Bool) (_u : Unit) => .tuple #[.int .i64 r.1, .int .i64 r.2.1, .bool r.2.2]) (fun (_r : Int × Int × Bool) (_u : Unit) => []) r := by
 refine calls_v (n := 39) r hr Tryz.func51 ?_
 unfold m_bill_account
 refine sr ?_
 refine la 3 ((6, .bool false) :: (5, .int .i64 _) :: (4, .int .i64 _) :: _) rfl ?_
 refine nn ?_
 refine cm_join (σ := Int × Int × Bool) (ξ := Unit) (fun s89 u90 => [(4, .int .i64 s89.1), (5, .int .i64 s89.2.1), (6, .bool s89.2.2)]) (fun s89 u90 => []) ?_ ?_
 ·refine sr ?_
  refine la 1 ((9, .slice _ _ _) :: _) rfl ?_
  refine v_ 10 (fun _ _ => op_lenN rfl (by kernel_rfl) hz_p0.2.2) ?_
  refine la 1 ((11, .int .i64 _) :: _) rfl ?_
  refine nn ?_
  refine cm_block ?_
  refine cm_loop (σ := Int × Int × Bool × Int) (ξ := Unit) (fun s147 u148 => [(1, .int .i64 p1), (4, .int .i64 s147.1), (5, .int .i64 s147.2.1), (6, .bool s147.2.2.1), (9, .slice A_p0 n_p0 c_p0), (10, .int .i64 (List.length p0 : Int)), (11, .int .i64 s147.2.2.2)]) (fun s147 u148 => []) () ?_ ?_ ?_
  ·exact sq
  ·exact sh []
  intro s147 u148
  refine sr ?_
  refine la 1 ((12, .bool _) :: _) rfl ?_
  refine nn ?_
  refine cm_seq ?_
  refine cm_cond (by kernel_rfl) rfl (fun h149 => ?_) (fun h149 => ?_)
  ·refine sk ?_
   refine cm_join (σ := Int × Int × Bool) (ξ := Unit) (fun s161 u162 => [(1, .int .i64 p1), (4, .int .i64 s161.1), (5, .int .i64 s161.2.1), (6, .bool s161.2.2), (9, .slice A_p0 n_p0 c_p0), (10, .int .i64 (List.length p0 : Int)), (11, .int .i64 s147.2.2.2)]) (fun s161 u162 => []) ?_ ?_
   ·refine cm_block ?_
    refine sr ?_
    refine lm_ck (fun h163 => ?_)
    refine v_ 13 (fun _ c1 => oI 5 rfl rfl ((hr_p0.old c1).addr h163.1 h163.2) hz_p0.2.2 h163) ?_
    refine v_ 14 (fun _ c1 => oR [.int .i64 ((ix p0 s147.2.2.2).Kind), .int .i64 ((ix p0 s147.2.2.2).Ref), .int .i64 ((ix p0 s147.2.2.2).Count), .int .i64 ((ix p0 s147.2.2.2).Price), .int .i64 ((ix p0 s147.2.2.2).Amount)] ((hr_p0.old c1).row h163.1 h163.2)) ?_
    refine lm_alloc 8 [.int .i64 0, .int .i64 0, .int .i64 0, .int .i64 0, .int .i64 0] (v := .agg #[.int .i64 0, .int .i64 0, .int .i64 0, .int .i64 0, .int .i64 0]) (by kernel_rfl) (by kernel_rfl) rfl ?_
    intro b164
    refine lm_storeA 0 [.int .i64 _, .int .i64 _, .int .i64 _, .int .i64 _, .int .i64 _] [_, _, _, _, _] (H' := [blkE _ _ [_, _, _, _, _]]) (by kernel_rfl) rfl rfl (by kernel_rfl) rfl rfl (by kernel_rfl) rfl rfl ?_
    refine nn ?_
    refine cm_seq ?_
    refine sr ?_
    refine v_ 15 (fun _ _ => oF 1 1 rfl) ?_
    refine v_ 16 (fun _ c1 => oL (c1.cell 0 (u := .int .i64 _) rfl rfl)) ?_
    refine la 2 ((18, .bool _) :: (17, .int .i64 _) :: _) rfl ?_
    refine nn ?_
    refine cm_cond (by kernel_rfl) rfl (fun h165 => ?_) (fun h165 => ?_)
    ·refine cm_exit ?_
     refine xm_thenE ?_
     refine xm_here ?_
     exact xm_lnext () sq (sh [])
    ·refine sk ?_
     refine sr ?_
     refine v_ 19 (fun _ _ => oF 0 0 rfl) ?_
     refine v_ 20 (fun _ c1 => oL (c1.cell 0 (u := .int .i64 _) rfl rfl)) ?_
     refine nn ?_
     refine cm_block ?_
     refine cm_seq ?_
     refine cm_block ?_
     refine cm_join (σ := Bool) (ξ := Unit) (fun s169 u170 => [(1, .int .i64 p1), (4, .int .i64 s147.1), (5, .int .i64 s147.2.1), (6, .bool s169), (8, .pointer (some ⟨b164, 0, none⟩)), (9, .slice A_p0 n_p0 c_p0), (10, .int .i64 (List.length p0 : Int)), (11, .int .i64 s147.2.2.2)]) (fun s169 u170 => [blkE b164 66 [.int .i64 ((ix p0 s147.2.2.2).Kind), .int .i64 ((ix p0 s147.2.2.2).Ref), .int .i64 ((ix p0 s147.2.2.2).Count), .int .i64 ((ix p0 s147.2.2.2).Price), .int .i64 ((ix p0 s147.2.2.2).Amount)]]) ?_ ?_
     ·refine cm_block ?_
      refine cm_seq ?_
      refine cm_block ?_
      refine cm_seq ?_
      refine cm_seq ?_
      refine sr ?_
      refine la 2 ((21, .bool _) :: (22, .bool _) :: _) rfl ?_
      refine nn ?_
      refine cm_cond (by kernel_rfl) rfl (fun h171 => ?_) (fun h171 => ?_)
      ·refine cm_exit ?_
       refine xm_thenE ?_
       refine xm_thenE ?_
       refine xm_here ?_
       refine xm_next ?_
       refine cm_region ?_
       refine la 1 ((6, .bool true) :: _) rfl ?_
       refine lm_nil ?_
       refine xm_inN ?_
       exact xm_lnext () sq (sh [0])
      ·refine sk ?_
       refine cm_seq ?_
       refine sr ?_
       refine la 2 ((23, .bool _) :: (24, .bool _) :: _) rfl ?_
       refine nn ?_
       refine cm_cond (by kernel_rfl) rfl (fun h172 => ?_) (fun h172 => ?_)
       ·refine cm_exit ?_
        refine xm_thenE ?_
        refine xm_thenE ?_
        refine xm_pass (by kernel_rfl) ?_
        refine xm_thenE ?_
        refine xm_here ?_
        exact xm_lnext () sq (sh [0])
       ·refine sk ?_
        refine sr ?_
        refine la 2 ((25, .bool _) :: (26, .bool _) :: _) rfl ?_
        refine nn ?_
        refine cm_cond (by kernel_rfl) rfl (fun h173 => ?_) (fun h173 => ?_)
        ·refine cm_exit ?_
         refine xm_thenE ?_
         refine xm_pass (by kernel_rfl) ?_
         refine xm_thenE ?_
         refine xm_pass (by kernel_rfl) ?_
         refine xm_lexitM ?_
         refine xm_here ?_
         refine xm_next ?_
         refine sr ?_
         refine la 1 ((31, .int .i64 _) :: _) rfl ?_
         refine v_ 32 (fun _ _ => oF 4 4 rfl) ?_
         refine v_ 33 (fun _ c1 => oL (c1.cell 0 (u := .int .i64 _) rfl rfl)) ?_
         refine v_ 34 (fun _ _ => op_subW rfl rfl) ?_
         refine la 1 ((5, .int .i64 _) :: _) rfl ?_
         refine nn ?_
         refine cm_exit ?_
         refine xm_here ?_
         refine xm_inN ?_
         exact xm_lnext () sq (sh [])
        ·refine sk ?_
         refine cm_exit ?_
         refine xm_pass (by kernel_rfl) ?_
         refine xm_thenE ?_
         refine xm_pass (by kernel_rfl) ?_
         refine xm_lexit ?_
         refine xm_pass (by kernel_rfl) ?_
         refine xm_thenE ?_
         refine xm_here ?_
         refine xm_inN ?_
         exact xm_lnext () sq (sh [])
     intro s169 u170
     refine sr ?_
     refine la 1 ((27, .int .i64 _) :: _) rfl ?_
     refine v_ 28 (fun _ _ => oF 4 4 rfl) ?_
     refine v_ 29 (fun _ c1 => oL (c1.cell 0 (u := .int .i64 _) rfl rfl)) ?_
     refine v_ 30 (fun _ _ => op_addW rfl rfl) ?_
     refine la 1 ((4, .int .i64 _) :: _) rfl ?_
     refine nn ?_
     refine cm_exit ?_
     refine xm_pass (by kernel_rfl) ?_
     refine xm_thenE ?_
     refine xm_here ?_
     refine xm_inN ?_
     exact xm_lnext () sq (sh [])
   intro s161 u162
   refine cm_region ?_
   refine lm_ck (fun h174 => ?_)
   refine v_ 35 (fun _ _ => op_add rfl rfl h174) ?_
   refine la 1 ((11, .int .i64 _) :: _) rfl ?_
   refine lm_nil ?_
   exact xm_lnext () sq (sh [])
  ·refine cm_exit ?_
   refine xm_thenE ?_
   refine xm_lexit ?_
   refine xm_here ?_
   exact xm_lnext () sq (sh [])
 intro s89 u90
 refine sr ?_
 refine la 6 ((6, .bool _) :: (5, .int .i64 _) :: (4, .int .i64 _) :: (38, .bool _) :: (37, .int .i64 _) :: (36, .int .i64 _) :: _) rfl ?_
 refine nn ?_
 refine cm_ret ?_
 exact xm_retTTT rfl (by kernel_rfl) (show _ = Value.int .i64 _ from rfl) (by kernel_rfl) (show _ = Value.int .i64 _ from rfl) (by kernel_rfl) (show _ = Value.bool _ from rfl) fun w1 c1 => ⟨(), rfl, hsub [] (by kernel_rfl) rfl w1 c1⟩
/-- bill.Credit -/
def m_bill_Credit (N : Nat) (p0 : ApiBill) (p1 : Int) (p2 : Int) : Option (ApiBill × Int) :=
 (if 512 ≤ (List.length p0.Items : Int) then
  some (((ApiBill.mk 0 0 (ApiWindow.mk 0 0) ([] : List ApiItem) 0), (8 : Int)))
 else
  Option.bind (m_bill_money N p0.Total) fun r8 => callIf ((!(!r8)) = true) (m_slices_ContainsFunc_bill_Credit_1 N p0.Items) fun r10 => (if ((((!r8) || r10) || (decide (p2 < 1))) || (decide (1000000000000 < p2))) = true then
   some (((ApiBill.mk 0 0 (ApiWindow.mk 0 0) ([] : List ApiItem) 0), (1 : Int)))
  else
   Option.bind (m_bill_account N p0.Items p1) fun r16 => (if (!r16.2.2) = true then
    some (((ApiBill.mk 0 0 (ApiWindow.mk 0 0) ([] : List ApiItem) 0), (7 : Int)))
   else
    ck (I64 (r16.2.1 + p2)) (
     (if r16.1 < (r16.2.1 + p2) then
      some (((ApiBill.mk 0 0 (ApiWindow.mk 0 0) ([] : List ApiItem) 0), (1 : Int)))
     else
      ck (I64 ((List.length p0.Items : Int) + (1 : Int))) (
       ck ((0 : Int) ≤ (List.length p0.Items : Int) ∧ (List.length p0.Items : Int) ≤ ((List.length p0.Items : Int) + (1 : Int)) ∧ Int.toNat ((List.length p0.Items : Int) + (1 : Int)) * 40 ≤ 140737488355328) (
        ck (I64 (-p2)) (
         ck (I64 (-p2)) (
          ck ((List.length (copyAt (List.replicate (Int.toNat (List.length p0.Items : Int)) (ApiItem.mk (0 : Int) (0 : Int) (0 : Int) (0 : Int) (0 : Int))) 0 p0.Items (min (List.length (List.replicate (Int.toNat (List.length p0.Items : Int)) (ApiItem.mk (0 : Int) (0 : Int) (0 : Int) (0 : Int) (0 : Int))) - 0) (List.length p0.Items))) + List.length ([(ApiItem.mk 4 p1 1 (-p2) (-p2))])) * 40 ≤ 140737488355328) (
           ck (I64 (p0.Total - p2)) (
            some (((ApiBill.mk p0.ID p0.Household p0.When ((copyAt (List.replicate (Int.toNat (List.length p0.Items : Int)) (ApiItem.mk (0 : Int) (0 : Int) (0 : Int) (0 : Int) (0 : Int))) 0 p0.Items (min (List.length (List.replicate (Int.toNat (List.length p0.Items : Int)) (ApiItem.mk (0 : Int) (0 : Int) (0 : Int) (0 : Int) (0 : Int))) - 0) (List.length p0.Items))) ++ ([(ApiItem.mk 4 p1 1 (-p2) (-p2))])) (p0.Total - p2)), (0 : Int))))))))))))))
set_option maxHeartbeats 2000000 in
set_option maxRecDepth 20000 in
theorem m_bill_Credit_ok (N : Nat) (w0 : World) (p0 : ApiBill) (p1 : Int) (p2 : Int) (A_p01 : Option Addr) (n_p01 c_p01 : Nat) (hr_p01 : RdE w0 5 encApiItem A_p01 p0.Items) (hz_p01 : SW A_p01 n_p01 c_p01 (List.length p0.Items)) (r : ApiBill × Int) (hr : m_bill_Credit N p0 p1 p2 = some r) :
  Ret Tryz.prog 19 [.agg #[.int .i64 p0.ID, .int .i64 p0.Household, .int .i64 p0.When.From, .int .i64 p0.When.To, .slice A_p01 n_p01 c_p01, .int .i64 p0.Total], .int .i64 p1, .int .i64 p2] w0 (fun (r : ApiBill × Int) (u : (Option Addr) × Nat × Nat) => .tuple #[.agg #[.int .i64 r.1.ID, .int .i64 r.1.Household, .int .i64 r.1.When.From, .int .i64 r.1.When.To, .slice u.1 u.2.1 u.2.2, .int .i64 r.1.Total], .int .i64 r.2]) (fun (r : ApiBill × Int) (u : (Option Addr) × Nat × Nat) => [ownE 66 5 encApiItem u.1 u.2.1 u.2.2 r.1.Items]) r := by
 refine calls_v (n := 85) r hr Tryz.func19 ?_
 unfold m_bill_Credit
 refine sr ?_
 refine lm_box 3 [.int .i64 _, .int .i64 _, .int .i64 _, .int .i64 _, .slice _ _ _, .int .i64 _] (by kernel_rfl) rfl ?_
 intro b5
 refine lm_alloc 6 [.int .i64 0, .int .i64 0, .int .i64 0, .int .i64 0, .slice none 0 0, .int .i64 0] (v := .agg #[.int .i64 0, .int .i64 0, .int .i64 0, .int .i64 0, .slice none 0 0, .int .i64 0]) (by kernel_rfl) (by kernel_rfl) rfl ?_
 intro b6
 refine la 1 ((7, .int .i64 _) :: _) rfl ?_
 refine nn ?_
 refine cm_seq ?_
 refine sr ?_
 refine v_ 12 (fun _ _ => oF 4 4 rfl) ?_
 refine v_ 13 (fun _ c1 => oL (c1.cell 1 (u := .slice _ _ _) rfl rfl)) ?_
 refine v_ 14 (fun _ _ => op_lenN rfl (by kernel_rfl) hz_p01.2.2) ?_
 refine la 1 ((15, .bool _) :: _) rfl ?_
 refine nn ?_
 refine cm_cond (by kernel_rfl) rfl (fun h7 => ?_) (fun h7 => ?_)
 ·refine sr ?_
  refine v_ 16 (fun _ _ => op_build (z := [.int .i64 0, .int .i64 0, .int .i64 0, .int .i64 0, .slice none 0 0, .int .i64 0]) (tab := [(0, 1), (1, 1), (2, 2), (4, 1), (5, 1)]) (cs := [.int .i64 _, .int .i64 _, .int .i64 _, .int .i64 _, .slice _ _ _, .int .i64 _]) [] (by kernel_rfl) (by kernel_rfl) fillOk_nil rfl) ?_
  refine lm_storeA 0 [.int .i64 _, .int .i64 _, .int .i64 _, .int .i64 _, .slice _ _ _, .int .i64 _] [_, _, _, _, _, _] (H' := [blkE _ _ [_, _, _, _, _, _], _]) (by kernel_rfl) rfl rfl (by kernel_rfl) rfl rfl (by kernel_rfl) rfl rfl ?_
  refine la 1 ((7, .int .i64 _) :: _) rfl ?_
  refine nn ?_
  refine cm_ret ?_
  refine xm_thenR ?_
  refine xm_nilrow 66 5 encApiItem ?_
  exact xm_retCT rfl (by kernel_rfl) (show _ = Value.pointer (some ⟨_, 0, none⟩) from rfl) (by kernel_rfl) (fun w1 c1 => c1.cells 1 (ds := [.int .i64 _, .int .i64 _, .int .i64 _, .int .i64 _, .slice _ _ _, .int .i64 _]) rfl rfl) (by kernel_rfl) (show _ = Value.int .i64 _ from rfl) fun w1 c1 => ⟨(none, 0, 0), rfl, hsub [0] (by kernel_rfl) rfl w1 c1⟩
 ·refine sk ?_
  refine cm_seq ?_
  refine cm_seq ?_
  refine cm_bind fun r8 h9 => ?_
  refine cm_callIf fun r10 h11 => ?_
  refine cm_cutE [(33, .bool ((((!r8) || r10) || (decide (p2 < 1))) || (decide (1000000000000 < p2))))] ?_ ?_
  ·refine q_ 17 (fun _ _ => oF 5 5 rfl) ?_
   refine q_ 18 (fun _ c1 => oL (c1.cell 1 (u := .int .i64 _) rfl rfl)) ?_
   refine wq_callb 19 (by kernel_rfl) (fun w1 c1 => op_call (by kernel_rfl)) (fun w1 c1 => (m_bill_money_ok N w1 p0.Total  r8 h9).mono (fun _ _ ⟨_, hx, hu⟩ => ⟨hx, c1.call hu⟩)) (fun h12 => ?_) (fun h12 => ?_)
   ·refine qa 2 ((21, .bool false) :: (20, .bool false) :: _) rfl ?_
    refine q_ 22 (fun _ _ => oF 4 4 rfl) ?_
    refine q_ 23 (fun _ c1 => oL (c1.cell 1 (u := .slice _ _ _) rfl rfl)) ?_
    refine wq_callb 24 (by kernel_rfl) (fun w1 c1 => op_call (by kernel_rfl)) (fun w1 c1 => (m_slices_ContainsFunc_bill_Credit_1_ok N w1 p0.Items A_p01 n_p01 c_p01 (hr_p01.old c1) hz_p01 r10 (h11 (by rw [h12] <;> rfl))).mono (fun _ _ ⟨_, hx, hu⟩ => ⟨hx, c1.call hu⟩)) (fun h13 => ?_) (fun h13 => ?_)
    ·refine qa 9 ((33, .bool true) :: (32, undef) :: (31, undef) :: (30, .bool true) :: (29, .bool true) :: (28, undef) :: (27, undef) :: (26, .bool true) :: (25, .bool true) :: _) rfl ?_
     exact leaf_q (sub_out 17 _ rfl (by kernel_rfl) ⟨(congrArg Value.bool (by rw [h12, h13] <;> rfl)), trivial⟩)
    ·refine qa 3 ((27, .int .i64 _) :: (26, .bool false) :: (25, .bool false) :: _) rfl ?_
     refine qd 28 (fun _ _ => op_lss rfl rfl) (fun h14 => ?_) (fun h14 => ?_)
     ·refine qa 5 ((33, .bool true) :: (32, undef) :: (31, undef) :: (30, .bool true) :: (29, .bool true) :: _) rfl ?_
      exact leaf_q (sub_out 17 _ rfl (by kernel_rfl) ⟨(congrArg Value.bool (by rw [h12, h13, decide_eq_true h14] <;> rfl)), trivial⟩)
     ·refine qa 5 ((33, .bool _) :: (32, .bool _) :: (31, .int .i64 _) :: (30, .bool false) :: (29, .bool false) :: _) rfl ?_
      exact leaf_q (sub_out 17 _ rfl (by kernel_rfl) ⟨(congrArg Value.bool (by rw [h12, h13, decide_eq_false h14] <;> rfl)), trivial⟩)
   ·refine qa 14 ((33, .bool true) :: (32, undef) :: (31, undef) :: (30, .bool true) :: (29, .bool true) :: (28, undef) :: (27, undef) :: (26, .bool true) :: (25, .bool true) :: (24, undef) :: (23, undef) :: (22, undef) :: (21, .bool true) :: (20, .bool true) :: _) rfl ?_
    exact leaf_q (sub_out 17 _ rfl (by kernel_rfl) ⟨(congrArg Value.bool (by rw [h12] <;> rfl)), trivial⟩)
  refine xm_next ?_
  refine cm_condB (by kernel_rfl) rfl (fun h15 => ?_) (fun h15 => ?_)
  ·refine sr ?_
   refine v_ 34 (fun _ _ => op_build (z := [.int .i64 0, .int .i64 0, .int .i64 0, .int .i64 0, .slice none 0 0, .int .i64 0]) (tab := [(0, 1), (1, 1), (2, 2), (4, 1), (5, 1)]) (cs := [.int .i64 _, .int .i64 _, .int .i64 _, .int .i64 _, .slice _ _ _, .int .i64 _]) [] (by kernel_rfl) (by kernel_rfl) fillOk_nil rfl) ?_
   refine lm_storeA 0 [.int .i64 _, .int .i64 _, .int .i64 _, .int .i64 _, .slice _ _ _, .int .i64 _] [_, _, _, _, _, _] (H' := [blkE _ _ [_, _, _, _, _, _], _]) (by kernel_rfl) rfl rfl (by kernel_rfl) rfl rfl (by kernel_rfl) rfl rfl ?_
   refine la 1 ((7, .int .i64 _) :: _) rfl ?_
   refine nn ?_
   refine cm_ret ?_
   refine xm_thenR ?_
   refine xm_nilrow 66 5 encApiItem ?_
   exact xm_retCT rfl (by kernel_rfl) (show _ = Value.pointer (some ⟨_, 0, none⟩) from rfl) (by kernel_rfl) (fun w1 c1 => c1.cells 1 (ds := [.int .i64 _, .int .i64 _, .int .i64 _, .int .i64 _, .slice _ _ _, .int .i64 _]) rfl rfl) (by kernel_rfl) (show _ = Value.int .i64 _ from rfl) fun w1 c1 => ⟨(none, 0, 0), rfl, hsub [0] (by kernel_rfl) rfl w1 c1⟩
  ·refine sk ?_
   refine sr ?_
   refine v_ 36 (fun _ _ => oF 4 4 rfl) ?_
   refine v_ 37 (fun _ c1 => oL (c1.cell 1 (u := .slice _ _ _) rfl rfl)) ?_
   refine la 1 ((38, .int .i64 _) :: _) rfl ?_
   refine lm_call 39 (V := (fun (r : Int × Int × Bool) (_u : Unit) => .tuple #[.int .i64 r.1, .int .i64 r.2.1, .bool r.2.2])) (HR := (fun (_r : Int × Int × Bool) (_u : Unit) => [])) (by kernel_rfl) (fun w1 => op_call (by kernel_rfl)) (fun r1 hr1 w1 c1 => m_bill_account_ok N w1 p0.Items p1 A_p01 n_p01 c_p01 (hr_p01.old c1) hz_p01 r1 hr1) ?_
   intro r16 u17
   refine la 7 ((10, .bool _) :: (9, .int .i64 _) :: (8, .int .i64 _) :: (42, .bool _) :: (41, .int .i64 _) :: (40, .int .i64 _) :: (35, .tuple _) :: _) rfl ?_
   refine nn ?_
   refine cm_seq ?_
   refine sr ?_
   refine la 2 ((44, .bool _) :: (43, .bool _) :: _) rfl ?_
   refine nn ?_
   refine cm_condB (by kernel_rfl) rfl (fun h18 => ?_) (fun h18 => ?_)
   ·refine sr ?_
    refine v_ 45 (fun _ _ => op_build (z := [.int .i64 0, .int .i64 0, .int .i64 0, .int .i64 0, .slice none 0 0, .int .i64 0]) (tab := [(0, 1), (1, 1), (2, 2), (4, 1), (5, 1)]) (cs := [.int .i64 _, .int .i64 _, .int .i64 _, .int .i64 _, .slice _ _ _, .int .i64 _]) [] (by kernel_rfl) (by kernel_rfl) fillOk_nil rfl) ?_
    refine lm_storeA 0 [.int .i64 _, .int .i64 _, .int .i64 _, .int .i64 _, .slice _ _ _, .int .i64 _] [_, _, _, _, _, _] (H' := [blkE _ _ [_, _, _, _, _, _], _]) (by kernel_rfl) rfl rfl (by kernel_rfl) rfl rfl (by kernel_rfl) rfl rfl ?_
    refine la 1 ((7, .int .i64 _) :: _) rfl ?_
    refine nn ?_
    refine cm_ret ?_
    refine xm_thenR ?_
    refine xm_nilrow 66 5 encApiItem ?_
    exact xm_retCT rfl (by kernel_rfl) (show _ = Value.pointer (some ⟨_, 0, none⟩) from rfl) (by kernel_rfl) (fun w1 c1 => c1.cells 1 (ds := [.int .i64 _, .int .i64 _, .int .i64 _, .int .i64 _, .slice _ _ _, .int .i64 _]) rfl rfl) (by kernel_rfl) (show _ = Value.int .i64 _ from rfl) fun w1 c1 => ⟨(none, 0, 0), rfl, hsub [0] (by kernel_rfl) rfl w1 c1⟩
   ·refine sk ?_
    refine cm_seq ?_
    refine sr ?_
    refine la 2 ((47, .int .i64 _) :: (46, .int .i64 _) :: _) rfl ?_
    refine lm_ck (fun h19 => ?_)
    refine v_ 48 (fun _ _ => op_add rfl rfl h19) ?_
    refine la 2 ((50, .bool _) :: (49, .int .i64 _) :: _) rfl ?_
    refine nn ?_
    refine cm_cond (by kernel_rfl) rfl (fun h20 => ?_) (fun h20 => ?_)
    ·refine sr ?_
     refine v_ 51 (fun _ _ => op_build (z := [.int .i64 0, .int .i64 0, .int .i64 0, .int .i64 0, .slice none 0 0, .int .i64 0]) (tab := [(0, 1), (1, 1), (2, 2), (4, 1), (5, 1)]) (cs := [.int .i64 _, .int .i64 _, .int .i64 _, .int .i64 _, .slice _ _ _, .int .i64 _]) [] (by kernel_rfl) (by kernel_rfl) fillOk_nil rfl) ?_
     refine lm_storeA 0 [.int .i64 _, .int .i64 _, .int .i64 _, .int .i64 _, .slice _ _ _, .int .i64 _] [_, _, _, _, _, _] (H' := [blkE _ _ [_, _, _, _, _, _], _]) (by kernel_rfl) rfl rfl (by kernel_rfl) rfl rfl (by kernel_rfl) rfl rfl ?_
     refine la 1 ((7, .int .i64 _) :: _) rfl ?_
     refine nn ?_
     refine cm_ret ?_
     refine xm_thenR ?_
     refine xm_nilrow 66 5 encApiItem ?_
     exact xm_retCT rfl (by kernel_rfl) (show _ = Value.pointer (some ⟨_, 0, none⟩) from rfl) (by kernel_rfl) (fun w1 c1 => c1.cells 1 (ds := [.int .i64 _, .int .i64 _, .int .i64 _, .int .i64 _, .slice _ _ _, .int .i64 _]) rfl rfl) (by kernel_rfl) (show _ = Value.int .i64 _ from rfl) fun w1 c1 => ⟨(none, 0, 0), rfl, hsub [0] (by kernel_rfl) rfl w1 c1⟩
    ·refine sk ?_
     refine sr ?_
     refine v_ 52 (fun _ _ => oF 4 4 rfl) ?_
     refine v_ 53 (fun _ c1 => oL (c1.cell 1 (u := .slice _ _ _) rfl rfl)) ?_
     refine v_ 54 (fun _ _ => op_lenN rfl (by kernel_rfl) hz_p01.2.2) ?_
     refine v_ 55 (fun _ _ => oF 4 4 rfl) ?_
     refine v_ 56 (fun _ c1 => oL (c1.cell 1 (u := .slice _ _ _) rfl rfl)) ?_
     refine v_ 57 (fun _ _ => op_lenN rfl (by kernel_rfl) hz_p01.2.2) ?_
     refine lm_ck (fun h21 => ?_)
     refine v_ 58 (fun _ _ => op_add rfl rfl h21) ?_
     refine lm_ck (fun h22 => ?_)
     refine lm_makeCap 59 (el := 66) (sz := 5) (bytes := 40) (enc := encApiItem) (ApiItem.mk (0 : Int) (0 : Int) (0 : Int) (0 : Int) (0 : Int)) (zv := .agg #[.int .i64 0, .int .i64 0, .int .i64 0, .int .i64 0, .int .i64 0]) (by kernel_rfl) (by kernel_rfl) (by kernel_rfl) rfl encApiItem_len rfl rfl h22.1 h22.2.1 h22.2.2 (by kernel_rfl) ?_
     intro A23 n24 k25 h26
     refine la 1 ((11, .slice _ _ _) :: _) rfl ?_
     refine nn ?_
     refine sr ?_
     refine la 1 ((60, .slice _ _ _) :: _) rfl ?_
     refine v_ 61 (fun _ _ => oF 4 4 rfl) ?_
     refine v_ 62 (fun _ c1 => oL (c1.cell 2 (u := .slice _ _ _) rfl rfl)) ?_
     refine lm_copy 63 0 (el := 66) (sz := 5) (bytes := 40) (enc := encApiItem) (l2 := p0.Items) 0 (by kernel_rfl) (by kernel_rfl) encApiItem_len encApiItem_one rfl rfl (fun w1 c1 => own_at (c1.own 0 rfl encApiItem_len) (c1.ownZ 0 rfl)) (fun w1 c1 => by rw [(c1.ownZ 0 rfl).2.2]; rfl) (Nat.zero_le _) rfl (fun w1 c1 => hz_p01) (fun w1 c1 => (hr_p01.old c1)) ?_
     refine nn ?_
     refine sr ?_
     refine la 3 ((66, .int .i64 _) :: (65, .int .i64 _) :: (64, .slice _ _ _) :: _) rfl ?_
     refine lm_ck (fun h27 => ?_)
     refine v_ 67 (fun _ _ => op_neg rfl h27) ?_
     refine la 1 ((68, .int .i64 _) :: _) rfl ?_
     refine lm_ck (fun h28 => ?_)
     refine v_ 69 (fun _ _ => op_neg rfl h28) ?_
     refine v_ 70 (fun _ _ => op_build (z := [.int .i64 0, .int .i64 0, .int .i64 0, .int .i64 0, .int .i64 0]) (tab := [(0, 1), (1, 1), (2, 1), (3, 1), (4, 1)]) (cs := [.int .i64 _, .int .i64 _, .int .i64 _, .int .i64 _, .int .i64 _]) [(0, [.int .i64 _]), (1, [.int .i64 _]), (2, [.int .i64 _]), (3, [.int .i64 _]), (4, [.int .i64 _])] (by kernel_rfl) (by kernel_rfl) (fillOk_cons rfl rfl rfl (fillOk_cons rfl rfl rfl (fillOk_cons rfl rfl rfl (fillOk_cons rfl rfl rfl (fillOk_cons rfl rfl rfl fillOk_nil))))) rfl) ?_
     refine lm_slice1 71 (el := 66) (sz := 5) (bytes := 40) (enc := encApiItem) (ApiItem.mk 4 p1 1 (-p2) (-p2)) (by kernel_rfl) (by kernel_rfl) encApiItem_len rfl (by kernel_rfl) ?_
     intro A29 n30 k31 h32
     refine lm_ck (fun h33 => ?_)
     refine lm_append 72 1 (el := 66) (sz := 5) (bytes := 40) (enc := encApiItem) (l2 := ([(ApiItem.mk 4 p1 1 (-p2) (-p2))])) (by kernel_rfl) (by kernel_rfl) encApiItem_len encApiItem_one rfl rfl rfl (fun w1 c1 => (c1.ownZ 0 rfl)) (fun w1 c1 => (c1.own 0 rfl encApiItem_len)) h33 ?_ (by kernel_rfl)
     intro A34 n35 k36
     refine la 1 ((11, .slice _ _ _) :: _) rfl ?_
     refine nn ?_
     refine sr ?_
     refine v_ 73 (fun _ _ => oF 0 0 rfl) ?_
     refine v_ 74 (fun _ c1 => oL (c1.cell 3 (u := .int .i64 _) rfl rfl)) ?_
     refine v_ 75 (fun _ _ => oF 1 1 rfl) ?_
     refine v_ 76 (fun _ c1 => oL (c1.cell 3 (u := .int .i64 _) rfl rfl)) ?_
     refine v_ 77 (fun _ _ => oF 2 2 rfl) ?_
     refine v_ 78 (fun _ c1 => oR [.int .i64 _, .int .i64 _] (c1.cells 3 rfl rfl)) ?_
     refine la 1 ((79, .slice _ _ _) :: _) rfl ?_
     refine v_ 80 (fun _ _ => oF 5 5 rfl) ?_
     refine v_ 81 (fun _ c1 => oL (c1.cell 3 (u := .int .i64 _) rfl rfl)) ?_
     refine la 1 ((82, .int .i64 _) :: _) rfl ?_
     refine lm_ck (fun h37 => ?_)
     refine v_ 83 (fun _ _ => op_sub rfl rfl h37) ?_
     refine v_ 84 (fun _ _ => op_build (z := [.int .i64 0, .int .i64 0, .int .i64 0, .int .i64 0, .slice none 0 0, .int .i64 0]) (tab := [(0, 1), (1, 1), (2, 2), (4, 1), (5, 1)]) (cs := [.int .i64 _, .int .i64 _, .int .i64 _, .int .i64 _, .slice _ _ _, .int .i64 _]) [(0, [.int .i64 _]), (1, [.int .i64 _]), (2, [.int .i64 _, .int .i64 _]), (4, [.slice _ _ _]), (5, [.int .i64 _])] (by kernel_rfl) (by kernel_rfl) (fillOk_cons rfl rfl rfl (fillOk_cons rfl rfl rfl (fillOk_cons rfl rfl rfl (fillOk_cons rfl rfl rfl (fillOk_cons rfl rfl rfl fillOk_nil))))) rfl) ?_
     refine lm_storeA 2 [.int .i64 _, .int .i64 _, .int .i64 _, .int .i64 _, .slice _ _ _, .int .i64 _] [_, _, _, _, _, _] (H' := [_, _, blkE _ _ [_, _, _, _, _, _], _]) (by kernel_rfl) rfl rfl (by kernel_rfl) rfl rfl (by kernel_rfl) rfl rfl ?_
     refine la 1 ((7, .int .i64 _) :: _) rfl ?_
     refine nn ?_
     refine cm_ret ?_
     exact xm_retCT rfl (by kernel_rfl) (show _ = Value.pointer (some ⟨_, 0, none⟩) from rfl) (by kernel_rfl) (fun w1 c1 => c1.cells 2 (ds := [.int .i64 _, .int .i64 _, .int .i64 _, .int .i64 _, .slice _ _ _, .int .i64 _]) rfl rfl) (by kernel_rfl) (show _ = Value.int .i64 _ from rfl) fun w1 c1 => ⟨(A34, n35, k36), rfl, hsub [1] (by kernel_rfl) rfl w1 c1⟩
end Go.Proofs.YtpbgfdmkebnjgaaGreatDoor
