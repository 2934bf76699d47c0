/- Models of functions, and that the code follows them. Written by deco.py. -/
import Derived.Test.YtpbgfdmkebnjgaaGreatDoorBGr
import Derived.Test.YtpbgfdmkebnjgaaGreatDoorDPair
namespace Go.Proofs.YtpbgfdmkebnjgaaGreatDoor
open Go.RowKit
set_option linter.unusedSectionVars false
variable [JF]

/-- recyclinglaw54.charged -/
def m_recyclinglaw54_charged (N : Nat) (p0 : ApiBill) : Option ((List ApiItem)) :=
 (andThen
  (loopM (fun (s148 : (List ApiItem) × Int) =>
   (if s148.2 < (List.length p0.Items : Int) then
    (andThen
     (ck ((0 : Int) ≤ s148.2 ∧ s148.2 < (List.length p0.Items : Int)) (
      (if (ix p0.Items s148.2).Kind ≠ 1 then
       ck ((0 : Int) ≤ s148.2 ∧ s148.2 < (List.length p0.Items : Int)) (
        ck ((List.length s148.1 + List.length ([(ix p0.Items s148.2)])) * 40 ≤ 140737488355328) (
         some (.next (s148.1 ++ ([(ix p0.Items s148.2)])))))
      else
       some (.next s148.1))))
    fun (s162 : (List ApiItem)) =>
     ck (I64 (s148.2 + (1 : Int))) (
      some (.next (s162, (s148.2 + (1 : Int))))))
   else
    some (.done (.next s148.1)))) N (([] : List ApiItem), (0 : Int)))
 fun (s90 : (List ApiItem)) =>
  some (s90))
set_option maxRecDepth 20000 in
theorem m_recyclinglaw54_charged_ok (N : Nat) (w0 : World) (p0 : ApiBill) (A_p01 : Option Addr) (n_p01 : Nat) (c_p01 : Nat) (hr_p01 : RdE w0 5 encApiItem A_p01 p0.Items) (hz_p01 : SW A_p01 n_p01 c_p01 (List.length p0.Items)) (r : (List ApiItem)) (hr : m_recyclinglaw54_charged N p0 = some r) :
  Ret Tryz.prog 30 [.agg #[.int .i64 p0.ID, .int .i64 p0.Household, .int .i64 p0.When.From, .int .i64 p0.When.To, .slice A_p01 n_p01 c_p01, .int .i64 p0.Total]] w0 (fun (_r : (List ApiItem)) (u : (Option Addr) × Nat × Nat) => .slice u.1 u.2.1 u.2.2) (fun (r : (List ApiItem)) (u : (Option Addr) × Nat × Nat) => [ownE 66 5 encApiItem u.1 u.2.1 u.2.2 r]) r := by
 refine calls_v (n := 28) r hr Tryz.func30 ?_
 unfold m_recyclinglaw54_charged
 refine sr ?_
 refine lm_box 1 [.int .i64 _, .int .i64 _, .int .i64 _, .int .i64 _, .slice _ _ _, .int .i64 _] (by kernel_rfl) rfl ?_
 intro b5
 refine la 1 ((2, .slice _ _ _) :: _) rfl ?_
 refine nn ?_
 refine sr ?_
 refine la 1 ((3, .slice _ _ _) :: _) rfl ?_
 refine nn ?_
 refine cm_join (σ := (List ApiItem)) (ξ := (Option Addr) × Nat × Nat) (fun s90 u91 => [(3, .slice u91.1 u91.2.1 u91.2.2)]) (fun s90 u91 => [ownE 66 5 encApiItem u91.1 u91.2.1 u91.2.2 s90]) ?_ ?_
 ·refine sr ?_
  refine la 1 ((4, .int .i64 _) :: _) rfl ?_
  refine nn ?_
  refine cm_block ?_
  refine cm_nilrow 66 5 encApiItem ?_
  refine cm_loop (σ := (List ApiItem) × Int) (ξ := (Option Addr) × Nat × Nat) (fun s148 u149 => [(1, .pointer (some ⟨b5, 0, none⟩)), (3, .slice u149.1 u149.2.1 u149.2.2), (4, .int .i64 s148.2)]) (fun s148 u149 => [blkE b5 39 [.int .i64 p0.ID, .int .i64 p0.Household, .int .i64 p0.When.From, .int .i64 p0.When.To, .slice A_p01 n_p01 c_p01, .int .i64 p0.Total], ownE 66 5 encApiItem u149.1 u149.2.1 u149.2.2 s148.1]) (none, 0, 0) ?_ ?_ ?_
  ·exact sq
  ·exact sh [1, 0]
  intro s148 u149
  refine cm_seq ?_
  refine sr ?_
  refine la 1 ((5, .int .i64 _) :: _) rfl ?_
  refine v_ 6 (fun _ _ => oF 4 4 rfl) ?_
  refine v_ 7 (fun _ c1 => oL (c1.cell 0 (u := .slice _ _ _) rfl rfl)) ?_
  refine v_ 8 (fun _ _ => op_lenN rfl (by kernel_rfl) hz_p01.2.2) ?_
  refine la 1 ((9, .bool _) :: _) rfl ?_
  refine nn ?_
  refine cm_cond (by kernel_rfl) rfl (fun h150 => ?_) (fun h150 => ?_)
  ·refine sk ?_
   refine cm_join (σ := (List ApiItem)) (ξ := (Option Addr) × Nat × Nat) (fun s162 u163 => [(1, .pointer (some ⟨b5, 0, none⟩)), (3, .slice u163.1 u163.2.1 u163.2.2), (4, .int .i64 s148.2)]) (fun s162 u163 => [blkE b5 39 [.int .i64 p0.ID, .int .i64 p0.Household, .int .i64 p0.When.From, .int .i64 p0.When.To, .slice A_p01 n_p01 c_p01, .int .i64 p0.Total], ownE 66 5 encApiItem u163.1 u163.2.1 u163.2.2 s162]) ?_ ?_
   ·refine cm_block ?_
    refine sr ?_
    refine v_ 12 (fun _ _ => oF 4 4 rfl) ?_
    refine v_ 13 (fun _ c1 => oL (c1.cell 0 (u := .slice _ _ _) rfl rfl)) ?_
    refine la 1 ((14, .int .i64 _) :: _) rfl ?_
    refine lm_ck (fun h164 => ?_)
    refine v_ 15 (fun _ c1 => oI 5 rfl rfl ((hr_p01.old c1).addr h164.1 h164.2) hz_p01.2.2 h164) ?_
    refine v_ 16 (fun _ _ => op_field0 rfl (by kernel_rfl)) ?_
    refine v_ 17 (fun _ c1 => oL (v := .int .i64 ((ix p0.Items s148.2).Kind)) ((hr_p01.old c1).cell0 h164.1 h164.2 rfl)) ?_
    refine la 1 ((18, .bool _) :: _) rfl ?_
    refine nn ?_
    refine cm_cond (by kernel_rfl) rfl (fun h165 => ?_) (fun h165 => ?_)
    ·refine cm_region ?_
     refine la 1 ((19, .slice _ _ _) :: _) rfl ?_
     refine v_ 20 (fun _ _ => oF 4 4 rfl) ?_
     refine v_ 21 (fun _ c1 => oL (c1.cell 0 (u := .slice _ _ _) rfl rfl)) ?_
     refine la 1 ((22, .int .i64 _) :: _) rfl ?_
     refine lm_ck (fun h166 => ?_)
     refine v_ 23 (fun _ c1 => oI 5 rfl rfl ((hr_p01.old c1).addr h166.1 h166.2) hz_p01.2.2 h166) ?_
     refine v_ 24 (fun _ c1 => oR [.int .i64 ((ix p0.Items s148.2).Kind), .int .i64 ((ix p0.Items s148.2).Ref), .int .i64 ((ix p0.Items s148.2).Count), .int .i64 ((ix p0.Items s148.2).Price), .int .i64 ((ix p0.Items s148.2).Amount)] ((hr_p01.old c1).row h166.1 h166.2)) ?_
     refine lm_slice1 25 (el := 66) (sz := 5) (bytes := 40) (enc := encApiItem) (ix p0.Items s148.2) (by kernel_rfl) (by kernel_rfl) encApiItem_len rfl (by kernel_rfl) ?_
     intro A167 n168 k169 h170
     refine lm_ck (fun h171 => ?_)
     refine lm_append 26 2 (el := 66) (sz := 5) (bytes := 40) (enc := encApiItem) (l2 := ([(ix p0.Items s148.2)])) (by kernel_rfl) (by kernel_rfl) encApiItem_len encApiItem_one rfl rfl rfl (fun w1 c1 => (c1.ownZ 0 rfl)) (fun w1 c1 => (c1.own 0 rfl encApiItem_len)) h171 ?_ (by kernel_rfl)
     intro A172 n173 k174
     refine la 1 ((3, .slice _ _ _) :: _) rfl ?_
     refine lm_nil ?_
     refine xm_inN ?_
     exact xm_lnext (A172, n173, k174) sq (sh [1, 2])
    ·refine cm_skip ?_
     refine xm_inN ?_
     exact xm_lnext (u149.1, u149.2.1, u149.2.2) sq (sh [0, 1])
   intro s162 u163
   refine cm_region ?_
   refine la 1 ((10, .int .i64 _) :: _) rfl ?_
   refine lm_ck (fun h175 => ?_)
   refine v_ 11 (fun _ _ => op_add rfl rfl h175) ?_
   refine la 1 ((4, .int .i64 _) :: _) rfl ?_
   refine lm_nil ?_
   exact xm_lnext (u163.1, u163.2.1, u163.2.2) sq (sh [0, 1])
  ·refine cm_exit ?_
   refine xm_thenE ?_
   refine xm_lexit ?_
   refine xm_here ?_
   exact xm_lnext (u149.1, u149.2.1, u149.2.2) sq (sh [1])
 intro s90 u91
 refine sr ?_
 refine la 2 ((2, .slice _ _ _) :: (27, .slice _ _ _) :: _) rfl ?_
 refine nn ?_
 refine cm_ret ?_
 exact xm_retT rfl (by kernel_rfl) (show _ = Value.slice _ _ _ from rfl) fun w1 c1 => ⟨(u91.1, u91.2.1, u91.2.2), rfl, hsub [0] (by kernel_rfl) rfl w1 c1⟩
/-- recyclinglaw54.BillSplits -/
def m_recyclinglaw54_BillSplits (N : Nat) (p0 : ApiAccount) (p1 : Recyclinglaw54Ask) (p2 : Int) : Option (Bool) :=
 Option.bind (m_recyclinglaw54_great N p0) fun r7 => (if ((r7 || (decide (p2 < p1.When.From))) || (decide (p1.When.To < p2))) = true then
  Option.bind (m_recyclinglaw54_awake N) fun r12 => some (r12)
 else
  Option.bind (m_bill_Make N p0 p1.ID p1.Household p1.When) fun r14 => Option.bind (m_bill_Make N p0 p1.ID p1.Household (ApiWindow.mk p1.When.From p2)) fun r17 => Option.bind (m_bill_Make N p0 p1.ID p1.Household (ApiWindow.mk p2 p1.When.To)) fun r20 => (if r14.2 ≠ 0 then
   Option.bind (m_recyclinglaw54_awake N) fun r24 => some (r24)
  else
   callIf (((decide (r17.2 = 0)) && (decide (r20.2 = 0))) = true) (m_recyclinglaw54_charged N r17.1) fun r32 => ck (((decide (r17.2 = 0)) && (decide (r20.2 = 0))) = true → (List.length ([] : List ApiItem) + List.length r32) * 40 ≤ 140737488355328) (
    callIf (((decide (r17.2 = 0)) && (decide (r20.2 = 0))) = true) (m_recyclinglaw54_charged N r20.1) fun r40 => ck (((decide (r17.2 = 0)) && (decide (r20.2 = 0))) = true → (List.length (([] : List ApiItem) ++ r32) + List.length r40) * 40 ≤ 140737488355328) (
     callIf (((decide (r17.2 = 0)) && (decide (r20.2 = 0))) = true) (m_recyclinglaw54_charged N r14.1) fun r48 => callIf (((decide (r17.2 = 0)) && (decide (r20.2 = 0))) = true) (m_recyclingref53_Same N ((([] : List ApiItem) ++ r32) ++ r40) r48) fun r50 => ck ((((decide (r17.2 = 0)) && (decide (r20.2 = 0))) && r50) = true → I64 (r17.1.Total + r20.1.Total)) (
      callIf (((((decide (r17.2 = 0)) && (decide (r20.2 = 0))) && r50) && (decide ((r17.1.Total + r20.1.Total) = r14.1.Total))) = true) (m_recyclinglaw54_awake N) fun r53 => some ((((((decide (r17.2 = 0)) && (decide (r20.2 = 0))) && r50) && (decide ((r17.1.Total + r20.1.Total) = r14.1.Total))) && r53)))))))
set_option maxHeartbeats 2000000 in
set_option maxRecDepth 20000 in
theorem m_recyclinglaw54_BillSplits_ok (N : Nat) (w0 : World) (p0 : ApiAccount) (p1 : Recyclinglaw54Ask) (p2 : Int) (A_p01 : Option Addr) (n_p01 : Nat) (c_p01 : Nat) (A_p02 : Option Addr) (n_p02 : Nat) (c_p02 : Nat) (A_p03 : Option Addr) (n_p03 : Nat) (c_p03 : Nat) (A_p04 : Option Addr) (n_p04 : Nat) (c_p04 : Nat) (A_p05 : Option Addr) (n_p05 : Nat) (c_p05 : Nat) (hr_p01 : RdE w0 2 encApiHousehold A_p01 p0.Households) (hz_p01 : SW A_p01 n_p01 c_p01 (List.length p0.Households)) (hr_p02 : RdE w0 5 encApiContainer A_p02 p0.Containers) (hz_p02 : SW A_p02 n_p02 c_p02 (List.length p0.Containers)) (hr_p03 : RdE w0 4 encApiAssign A_p03 p0.Assigns) (hz_p03 : SW A_p03 n_p03 c_p03 (List.length p0.Assigns)) (hr_p04 : RdE w0 7 encApiEmptying A_p04 p0.Emptyings) (hz_p04 : SW A_p04 n_p04 c_p04 (List.length p0.Emptyings)) (hr_p05 : RdE w0 5 encApiTariff A_p05 p0.Tariffs) (hz_p05 : SW A_p05 n_p05 c_p05 (List.length p0.Tariffs)) (ht : Tab w0) (r : Bool) (hr : m_recyclinglaw54_BillSplits N p0 p1 p2 = some r) :
  Ret Tryz.prog 9 [.agg #[.slice A_p01 n_p01 c_p01, .slice A_p02 n_p02 c_p02, .slice A_p03 n_p03 c_p03, .slice A_p04 n_p04 c_p04, .slice A_p05 n_p05 c_p05, .int .i64 p0.Gap], .agg #[.int .i64 p1.ID, .int .i64 p1.Household, .int .i64 p1.When.From, .int .i64 p1.When.To], .int .i64 p2] w0 (fun (r : Bool) (_u : Unit) => .bool r) (fun (_r : Bool) (_u : Unit) => []) r := by
 refine calls_v (n := 103) r hr Tryz.func9 ?_
 unfold m_recyclinglaw54_BillSplits
 refine sr ?_
 refine lm_box 3 [.slice _ _ _, .slice _ _ _, .slice _ _ _, .slice _ _ _, .slice _ _ _, .int .i64 _] (by kernel_rfl) rfl ?_
 intro b5
 refine lm_box 4 [.int .i64 _, .int .i64 _, .int .i64 _, .int .i64 _] (by kernel_rfl) rfl ?_
 intro b6
 refine la 1 ((6, .bool false) :: _) rfl ?_
 refine nn ?_
 refine cm_seq ?_
 refine cm_seq ?_
 refine cm_bind fun r7 h8 => ?_
 refine cm_cutE [(28, .bool ((r7 || (decide (p2 < p1.When.From))) || (decide (p1.When.To < p2))))] ?_ ?_
 ·refine q_ 13 (fun _ c1 => oR [.slice _ _ _, .slice _ _ _, .slice _ _ _, .slice _ _ _, .slice _ _ _, .int .i64 _] (c1.cells 1 rfl rfl)) ?_
  refine wq_callb 14 (by kernel_rfl) (fun w1 c1 => op_call (by kernel_rfl)) (fun w1 c1 => (m_recyclinglaw54_great_ok N w1 p0 A_p01 n_p01 c_p01 A_p02 n_p02 c_p02 A_p03 n_p03 c_p03 A_p04 n_p04 c_p04 A_p05 n_p05 c_p05 (hr_p01.old c1) hz_p01 (hr_p02.old c1) hz_p02 (hr_p03.old c1) hz_p03 (hr_p04.old c1) hz_p04 (hr_p05.old c1) hz_p05 r7 h8).mono (fun _ _ ⟨_, hx, hu⟩ => ⟨hx, c1.call hu⟩)) (fun h9 => ?_) (fun h9 => ?_)
  ·refine qa 14 ((28, .bool true) :: (27, undef) :: (26, undef) :: (25, undef) :: (24, undef) :: (23, undef) :: (22, .bool true) :: (21, .bool true) :: (20, undef) :: (19, undef) :: (18, undef) :: (17, undef) :: (16, undef) :: (15, .bool true) :: _) rfl ?_
   exact leaf_q (sub_out 16 _ rfl (by kernel_rfl) ⟨(congrArg Value.bool (by rw [h9] <;> rfl)), trivial⟩)
  ·refine qa 2 ((16, .int .i64 _) :: (15, .bool false) :: _) rfl ?_
   refine q_ 17 (fun _ _ => oF 2 2 rfl) ?_
   refine q_ 18 (fun _ _ => oF 0 2 rfl) ?_
   refine q_ 19 (fun _ c1 => oL (c1.cell 0 (u := .int .i64 _) rfl rfl)) ?_
   refine qd 20 (fun _ _ => op_lss rfl rfl) (fun h10 => ?_) (fun h10 => ?_)
   ·refine qa 8 ((28, .bool true) :: (27, undef) :: (26, undef) :: (25, undef) :: (24, undef) :: (23, undef) :: (22, .bool true) :: (21, .bool true) :: _) rfl ?_
    exact leaf_q (sub_out 16 _ rfl (by kernel_rfl) ⟨(congrArg Value.bool (by rw [h9, decide_eq_true h10] <;> rfl)), trivial⟩)
   ·refine qa 3 ((23, .int .i64 _) :: (22, .bool false) :: (21, .bool false) :: _) rfl ?_
    refine q_ 24 (fun _ _ => oF 2 2 rfl) ?_
    refine q_ 25 (fun _ _ => oF 1 3 rfl) ?_
    refine q_ 26 (fun _ c1 => oL (c1.cell 0 (u := .int .i64 _) rfl rfl)) ?_
    refine qa 2 ((28, .bool _) :: (27, .bool _) :: _) rfl ?_
    exact leaf_q (sub_out 16 _ rfl (by kernel_rfl) ⟨(congrArg Value.bool (by rw [h9, decide_eq_false h10] <;> rfl)), trivial⟩)
 refine xm_next ?_
 refine cm_condB (by kernel_rfl) rfl (fun h11 => ?_) (fun h11 => ?_)
 ·refine sr ?_
  refine lm_call 29 (V := (fun (r : Bool) (_u : Unit) => .bool r)) (HR := (fun (_r : Bool) (_u : Unit) => [])) (by kernel_rfl) (fun w1 => op_call (by kernel_rfl)) (fun r1 hr1 w1 c1 => m_recyclinglaw54_awake_ok N w1  (hs_tab ht c1) r1 hr1) ?_
  intro r12 u13
  refine la 1 ((6, .bool _) :: _) rfl ?_
  refine nn ?_
  refine cm_ret ?_
  refine xm_thenR ?_
  exact xm_retT rfl (by kernel_rfl) (show _ = Value.bool _ from rfl) fun w1 c1 => ⟨(), rfl, hsub [] (by kernel_rfl) rfl w1 c1⟩
 ·refine sk ?_
  refine sr ?_
  refine v_ 31 (fun _ c1 => oR [.slice _ _ _, .slice _ _ _, .slice _ _ _, .slice _ _ _, .slice _ _ _, .int .i64 _] (c1.cells 1 rfl rfl)) ?_
  refine v_ 32 (fun _ _ => oF 0 0 rfl) ?_
  refine v_ 33 (fun _ c1 => oL (c1.cell 0 (u := .int .i64 _) rfl rfl)) ?_
  refine v_ 34 (fun _ _ => oF 1 1 rfl) ?_
  refine v_ 35 (fun _ c1 => oL (c1.cell 0 (u := .int .i64 _) rfl rfl)) ?_
  refine v_ 36 (fun _ _ => oF 2 2 rfl) ?_
  refine v_ 37 (fun _ c1 => oR [.int .i64 _, .int .i64 _] (c1.cells 0 rfl rfl)) ?_
  refine lm_call 38 (V := (fun (r : ApiBill × Int) (u : (Option Addr) × Nat × Nat) => .tuple #[.agg #[.int .i64 r.1.ID, .int .i64 r.1.Household, .int .i64 r.1.When.From, .int .i64 r.1.When.To, .slice u.1 u.2.1 u.2.2, .int .i64 r.1.Total], .int .i64 r.2])) (HR := (fun (r : ApiBill × Int) (u : (Option Addr) × Nat × Nat) => [ownE 66 5 encApiItem u.1 u.2.1 u.2.2 r.1.Items])) (by kernel_rfl) (fun w1 => op_call (by kernel_rfl)) (fun r1 hr1 w1 c1 => m_bill_Make_ok N w1 p0 p1.ID p1.Household p1.When A_p01 n_p01 c_p01 A_p02 n_p02 c_p02 A_p03 n_p03 c_p03 A_p04 n_p04 c_p04 A_p05 n_p05 c_p05 (hr_p01.old c1) hz_p01 (hr_p02.old c1) hz_p02 (hr_p03.old c1) hz_p03 (hr_p04.old c1) hz_p04 (hr_p05.old c1) hz_p05 r1 hr1) ?_
  intro r14 u15
  refine la 3 ((40, .int .i64 _) :: (39, .agg _) :: (30, .tuple _) :: _) rfl ?_
  refine lm_alloc 7 [.int .i64 0, .int .i64 0, .int .i64 0, .int .i64 0, .slice none 0 0, .int .i64 0] (v := .agg #[.int .i64 0, .int .i64 0, .int .i64 0, .int .i64 0, .slice none 0 0, .int .i64 0]) (by kernel_rfl) (by kernel_rfl) rfl ?_
  intro b16
  refine lm_storeA 0 [.int .i64 _, .int .i64 _, .int .i64 _, .int .i64 _, .slice _ _ _, .int .i64 _] [_, _, _, _, _, _] (H' := [blkE _ _ [_, _, _, _, _, _], _, _, _]) (by kernel_rfl) rfl rfl (by kernel_rfl) rfl rfl (by kernel_rfl) rfl rfl ?_
  refine la 1 ((8, .int .i64 _) :: _) rfl ?_
  refine nn ?_
  refine sr ?_
  refine v_ 42 (fun _ c1 => oR [.slice _ _ _, .slice _ _ _, .slice _ _ _, .slice _ _ _, .slice _ _ _, .int .i64 _] (c1.cells 3 rfl rfl)) ?_
  refine v_ 43 (fun _ _ => oF 0 0 rfl) ?_
  refine v_ 44 (fun _ c1 => oL (c1.cell 2 (u := .int .i64 _) rfl rfl)) ?_
  refine v_ 45 (fun _ _ => oF 1 1 rfl) ?_
  refine v_ 46 (fun _ c1 => oL (c1.cell 2 (u := .int .i64 _) rfl rfl)) ?_
  refine v_ 47 (fun _ _ => oF 2 2 rfl) ?_
  refine v_ 48 (fun _ _ => oF 0 2 rfl) ?_
  refine v_ 49 (fun _ c1 => oL (c1.cell 2 (u := .int .i64 _) rfl rfl)) ?_
  refine la 1 ((50, .int .i64 _) :: _) rfl ?_
  refine v_ 51 (fun _ _ => op_build (z := [.int .i64 0, .int .i64 0]) (tab := [(0, 1), (1, 1)]) (cs := [.int .i64 _, .int .i64 _]) [(0, [.int .i64 _]), (1, [.int .i64 _])] (by kernel_rfl) (by kernel_rfl) (fillOk_cons rfl rfl rfl (fillOk_cons rfl rfl rfl fillOk_nil)) rfl) ?_
  refine lm_call 52 (V := (fun (r : ApiBill × Int) (u : (Option Addr) × Nat × Nat) => .tuple #[.agg #[.int .i64 r.1.ID, .int .i64 r.1.Household, .int .i64 r.1.When.From, .int .i64 r.1.When.To, .slice u.1 u.2.1 u.2.2, .int .i64 r.1.Total], .int .i64 r.2])) (HR := (fun (r : ApiBill × Int) (u : (Option Addr) × Nat × Nat) => [ownE 66 5 encApiItem u.1 u.2.1 u.2.2 r.1.Items])) (by kernel_rfl) (fun w1 => op_call (by kernel_rfl)) (fun r1 hr1 w1 c1 => m_bill_Make_ok N w1 p0 p1.ID p1.Household (ApiWindow.mk p1.When.From p2) A_p01 n_p01 c_p01 A_p02 n_p02 c_p02 A_p03 n_p03 c_p03 A_p04 n_p04 c_p04 A_p05 n_p05 c_p05 (hr_p01.old c1) hz_p01 (hr_p02.old c1) hz_p02 (hr_p03.old c1) hz_p03 (hr_p04.old c1) hz_p04 (hr_p05.old c1) hz_p05 r1 hr1) ?_
  intro r17 u18
  refine la 3 ((54, .int .i64 _) :: (53, .agg _) :: (41, .tuple _) :: _) rfl ?_
  refine lm_alloc 9 [.int .i64 0, .int .i64 0, .int .i64 0, .int .i64 0, .slice none 0 0, .int .i64 0] (v := .agg #[.int .i64 0, .int .i64 0, .int .i64 0, .int .i64 0, .slice none 0 0, .int .i64 0]) (by kernel_rfl) (by kernel_rfl) rfl ?_
  intro b19
  refine lm_storeA 0 [.int .i64 _, .int .i64 _, .int .i64 _, .int .i64 _, .slice _ _ _, .int .i64 _] [_, _, _, _, _, _] (H' := [blkE _ _ [_, _, _, _, _, _], _, _, _, _, _]) (by kernel_rfl) rfl rfl (by kernel_rfl) rfl rfl (by kernel_rfl) rfl rfl ?_
  refine la 1 ((10, .int .i64 _) :: _) rfl ?_
  refine nn ?_
  refine sr ?_
  refine v_ 56 (fun _ c1 => oR [.slice _ _ _, .slice _ _ _, .slice _ _ _, .slice _ _ _, .slice _ _ _, .int .i64 _] (c1.cells 5 rfl rfl)) ?_
  refine v_ 57 (fun _ _ => oF 0 0 rfl) ?_
  refine v_ 58 (fun _ c1 => oL (c1.cell 4 (u := .int .i64 _) rfl rfl)) ?_
  refine v_ 59 (fun _ _ => oF 1 1 rfl) ?_
  refine v_ 60 (fun _ c1 => oL (c1.cell 4 (u := .int .i64 _) rfl rfl)) ?_
  refine la 1 ((61, .int .i64 _) :: _) rfl ?_
  refine v_ 62 (fun _ _ => oF 2 2 rfl) ?_
  refine v_ 63 (fun _ _ => oF 1 3 rfl) ?_
  refine v_ 64 (fun _ c1 => oL (c1.cell 4 (u := .int .i64 _) rfl rfl)) ?_
  refine v_ 65 (fun _ _ => op_build (z := [.int .i64 0, .int .i64 0]) (tab := [(0, 1), (1, 1)]) (cs := [.int .i64 _, .int .i64 _]) [(0, [.int .i64 _]), (1, [.int .i64 _])] (by kernel_rfl) (by kernel_rfl) (fillOk_cons rfl rfl rfl (fillOk_cons rfl rfl rfl fillOk_nil)) rfl) ?_
  refine lm_call 66 (V := (fun (r : ApiBill × Int) (u : (Option Addr) × Nat × Nat) => .tuple #[.agg #[.int .i64 r.1.ID, .int .i64 r.1.Household, .int .i64 r.1.When.From, .int .i64 r.1.When.To, .slice u.1 u.2.1 u.2.2, .int .i64 r.1.Total], .int .i64 r.2])) (HR := (fun (r : ApiBill × Int) (u : (Option Addr) × Nat × Nat) => [ownE 66 5 encApiItem u.1 u.2.1 u.2.2 r.1.Items])) (by kernel_rfl) (fun w1 => op_call (by kernel_rfl)) (fun r1 hr1 w1 c1 => m_bill_Make_ok N w1 p0 p1.ID p1.Household (ApiWindow.mk p2 p1.When.To) A_p01 n_p01 c_p01 A_p02 n_p02 c_p02 A_p03 n_p03 c_p03 A_p04 n_p04 c_p04 A_p05 n_p05 c_p05 (hr_p01.old c1) hz_p01 (hr_p02.old c1) hz_p02 (hr_p03.old c1) hz_p03 (hr_p04.old c1) hz_p04 (hr_p05.old c1) hz_p05 r1 hr1) ?_
  intro r20 u21
  refine la 3 ((68, .int .i64 _) :: (67, .agg _) :: (55, .tuple _) :: _) rfl ?_
  refine lm_alloc 11 [.int .i64 0, .int .i64 0, .int .i64 0, .int .i64 0, .slice none 0 0, .int .i64 0] (v := .agg #[.int .i64 0, .int .i64 0, .int .i64 0, .int .i64 0, .slice none 0 0, .int .i64 0]) (by kernel_rfl) (by kernel_rfl) rfl ?_
  intro b22
  refine lm_storeA 0 [.int .i64 _, .int .i64 _, .int .i64 _, .int .i64 _, .slice _ _ _, .int .i64 _] [_, _, _, _, _, _] (H' := [blkE _ _ [_, _, _, _, _, _], _, _, _, _, _, _, _]) (by kernel_rfl) rfl rfl (by kernel_rfl) rfl rfl (by kernel_rfl) rfl rfl ?_
  refine la 1 ((12, .int .i64 _) :: _) rfl ?_
  refine nn ?_
  refine cm_seq ?_
  refine sr ?_
  refine la 2 ((70, .bool _) :: (69, .int .i64 _) :: _) rfl ?_
  refine nn ?_
  refine cm_cond (by kernel_rfl) rfl (fun h23 => ?_) (fun h23 => ?_)
  ·refine sr ?_
   refine lm_call 71 (V := (fun (r : Bool) (_u : Unit) => .bool r)) (HR := (fun (_r : Bool) (_u : Unit) => [])) (by kernel_rfl) (fun w1 => op_call (by kernel_rfl)) (fun r1 hr1 w1 c1 => m_recyclinglaw54_awake_ok N w1  (hs_tab ht c1) r1 hr1) ?_
   intro r24 u25
   refine la 1 ((6, .bool _) :: _) rfl ?_
   refine nn ?_
   refine cm_ret ?_
   refine xm_thenR ?_
   exact xm_retT rfl (by kernel_rfl) (show _ = Value.bool _ from rfl) fun w1 c1 => ⟨(), rfl, hsub [] (by kernel_rfl) rfl w1 c1⟩
  ·refine sk ?_
   refine cm_seq ?_
   refine cm_callIf fun r32 h33 => ?_
   refine cm_ck (fun h34 => ?_)
   refine cm_callIf fun r40 h41 => ?_
   refine cm_ck (fun h42 => ?_)
   refine cm_callIf fun r48 h49 => ?_
   refine cm_callIf fun r50 h51 => ?_
   refine cm_ck (fun h52 => ?_)
   refine cm_callIf fun r53 h54 => ?_
   refine cm_held (ξ := Unit) (fun u123 => [(6, .bool (((((decide (r17.2 = 0)) && (decide (r20.2 = 0))) && r50) && (decide ((r17.1.Total + r20.1.Total) = r14.1.Total))) && r53))]) (fun u123 => []) [blkE b22 39 [.int .i64 r20.1.ID, .int .i64 r20.1.Household, .int .i64 r20.1.When.From, .int .i64 r20.1.When.To, .slice u21.1 u21.2.1 u21.2.2, .int .i64 r20.1.Total], ownE 66 5 encApiItem u21.1 u21.2.1 u21.2.2 r20.1.Items, blkE b19 39 [.int .i64 r17.1.ID, .int .i64 r17.1.Household, .int .i64 r17.1.When.From, .int .i64 r17.1.When.To, .slice u18.1 u18.2.1 u18.2.2, .int .i64 r17.1.Total], ownE 66 5 encApiItem u18.1 u18.2.1 u18.2.2 r17.1.Items, blkE b16 39 [.int .i64 r14.1.ID, .int .i64 r14.1.Household, .int .i64 r14.1.When.From, .int .i64 r14.1.When.To, .slice u15.1 u15.2.1 u15.2.2, .int .i64 r14.1.Total], ownE 66 5 encApiItem u15.1 u15.2.1 u15.2.2 r14.1.Items, blkE b6 36 [.int .i64 p1.ID, .int .i64 p1.Household, .int .i64 p1.When.From, .int .i64 p1.When.To], blkE b5 28 [.slice A_p01 n_p01 c_p01, .slice A_p02 n_p02 c_p02, .slice A_p03 n_p03 c_p03, .slice A_p04 n_p04 c_p04, .slice A_p05 n_p05 c_p05, .int .i64 p0.Gap]] 32 (by kernel_rfl) (by rfl) (hsub [0, 1, 2, 3, 4, 5, 6, 7] (by kernel_rfl) (by rfl)) ?_ ?_
   ·intro w125 c126
    refine wh_take 0 72 rfl (by kernel_rfl) (by kernel_rfl) (fun w2 c2 => (op_move (v := .int .i64 _) rfl)) (hsub [0, 1, 2, 3, 4, 5, 6, 7] (by kernel_rfl) rfl _ c126) ?_
    refine wh_dec 1 73 rfl (by kernel_rfl) (by kernel_rfl) (fun w2 c2 => (op_eql rfl rfl)) (hsub [0, 1, 2, 3, 4, 5, 6, 7] (by kernel_rfl) rfl _ c126) (fun h127 => ?_) (fun h127 => ?_)
    ·refine wh_take 2 74 rfl (by kernel_rfl) (by kernel_rfl) (fun w2 c2 => (op_move (v := .bool true) rfl)) (hsub [0, 1, 2, 3, 4, 5, 6, 7] (by kernel_rfl) rfl _ c126) ?_
     refine wh_take 3 75 rfl (by kernel_rfl) (by kernel_rfl) (fun w2 c2 => (op_move (v := .int .i64 _) rfl)) (hsub [0, 1, 2, 3, 4, 5, 6, 7] (by kernel_rfl) rfl _ c126) ?_
     refine wh_dec 4 76 rfl (by kernel_rfl) (by kernel_rfl) (fun w2 c2 => (op_eql rfl rfl)) (hsub [0, 1, 2, 3, 4, 5, 6, 7] (by kernel_rfl) rfl _ c126) (fun h128 => ?_) (fun h128 => ?_)
     ·refine wh_take 5 77 rfl (by kernel_rfl) (by kernel_rfl) (fun w2 c2 => (op_pick_t (v := .bool true) rfl rfl)) (hsub [0, 1, 2, 3, 4, 5, 6, 7] (by kernel_rfl) rfl _ c126) ?_
      refine wh_take 6 78 rfl (by kernel_rfl) (by kernel_rfl) (fun w2 c2 => (op_move (v := .bool true) rfl)) (hsub [0, 1, 2, 3, 4, 5, 6, 7] (by kernel_rfl) rfl _ c126) ?_
      refine wh_take 8 80 rfl (by kernel_rfl) (by kernel_rfl) (fun w2 c2 => (op_loadR [.int .i64 _, .int .i64 _, .int .i64 _, .int .i64 _, .slice _ _ _, .int .i64 _] rfl (by kernel_rfl) (c2.cells 2 rfl rfl))) (hsub [0, 1, 2, 3, 4, 5, 6, 7] (by kernel_rfl) rfl _ c126) ?_
      refine wh_take 11 83 rfl (by kernel_rfl) (by kernel_rfl) (fun w2 c2 => (op_loadR [.int .i64 _, .int .i64 _, .int .i64 _, .int .i64 _, .slice _ _ _, .int .i64 _] rfl (by kernel_rfl) (c2.cells 0 rfl rfl))) (hsub [0, 1, 2, 3, 4, 5, 6, 7] (by kernel_rfl) rfl _ c126) ?_
      refine wh_take 14 86 rfl (by kernel_rfl) (by kernel_rfl) (fun w2 c2 => (op_loadR [.int .i64 _, .int .i64 _, .int .i64 _, .int .i64 _, .slice _ _ _, .int .i64 _] rfl (by kernel_rfl) (c2.cells 4 rfl rfl))) (hsub [0, 1, 2, 3, 4, 5, 6, 7] (by kernel_rfl) rfl _ c126) ?_
      refine wh_ready [7, 9] (by kernel_rfl) rfl ⟨?_, ?_, trivial⟩
      ·refine ws_slice0 79 (el := 66) (sz := 5) (bytes := 40) (enc := encApiItem) rfl (by kernel_rfl) (by kernel_rfl) c126 ?_
       intro A129 n130 k131 w132 c133
       refine ⟨(hsub [1, 2, 3, 4, 5, 6, 7, 8] (by kernel_rfl) rfl _ c133), ?_⟩
       refine wh_ready [9] (by kernel_rfl) rfl ⟨?_, trivial⟩
       refine ws_call 81 rfl (by kernel_rfl) (op_call (by kernel_rfl)) (m_recyclinglaw54_charged_ok N _ r17.1 u18.1 u18.2.1 u18.2.2 (c133.own 4 rfl encApiItem_len) (c133.ownZ 4 rfl) r32 (h33 (by rw [decide_eq_true h127, decide_eq_true h128] <;> rfl))) ?_
       rintro x w136 ⟨u135, rfl, c137⟩
       replace c137 := c133.call c137
       refine ⟨_, rfl, (hsub [2, 3, 4, 5, 6, 7, 8, 9] (by kernel_rfl) rfl _ c137), ?_⟩
       refine wh_strong (Hs w0 [ownE 66 5 encApiItem u135.1 u135.2.1 u135.2.2 r32, blkE b22 39 [.int .i64 r20.1.ID, .int .i64 r20.1.Household, .int .i64 r20.1.When.From, .int .i64 r20.1.When.To, .slice u21.1 u21.2.1 u21.2.2, .int .i64 r20.1.Total], ownE 66 5 encApiItem u21.1 u21.2.1 u21.2.2 r20.1.Items, blkE b19 39 [.int .i64 r17.1.ID, .int .i64 r17.1.Household, .int .i64 r17.1.When.From, .int .i64 r17.1.When.To, .slice u18.1 u18.2.1 u18.2.2, .int .i64 r17.1.Total], ownE 66 5 encApiItem u18.1 u18.2.1 u18.2.2 r17.1.Items, blkE b16 39 [.int .i64 r14.1.ID, .int .i64 r14.1.Household, .int .i64 r14.1.When.From, .int .i64 r14.1.When.To, .slice u15.1 u15.2.1 u15.2.2, .int .i64 r14.1.Total], ownE 66 5 encApiItem u15.1 u15.2.1 u15.2.2 r14.1.Items, blkE b6 36 [.int .i64 p1.ID, .int .i64 p1.Household, .int .i64 p1.When.From, .int .i64 p1.When.To], blkE b5 28 [.slice A_p01 n_p01 c_p01, .slice A_p02 n_p02 c_p02, .slice A_p03 n_p03 c_p03, .slice A_p04 n_p04 c_p04, .slice A_p05 n_p05 c_p05, .int .i64 p0.Gap]]) (fun w2 c2 => hsub [1, 2, 3, 4, 5, 6, 7, 8] (by kernel_rfl) rfl w2 c2) ?_
       refine wh_ready [10] (by kernel_rfl) rfl ⟨?_, trivial⟩
       refine ws_append 82 1 (el := 66) (sz := 5) (bytes := 40) (enc := encApiItem) (l2 := r32) rfl (by kernel_rfl) (by kernel_rfl) encApiItem_len encApiItem_one rfl rfl rfl (c137.ownZ 0 rfl) (c137.own 0 rfl encApiItem_len) (h34 (by rw [decide_eq_true h127, decide_eq_true h128] <;> rfl)) (by kernel_rfl) c137 ?_
       intro A138 n139 k140 w141 c142
       refine ⟨(hsub [0, 2, 3, 4, 5, 6, 7, 8, 9] (by kernel_rfl) rfl _ c142), ?_⟩
       refine wh_ready [12] (by kernel_rfl) rfl ⟨?_, trivial⟩
       refine ws_call 84 rfl (by kernel_rfl) (op_call (by kernel_rfl)) (m_recyclinglaw54_charged_ok N _ r20.1 u21.1 u21.2.1 u21.2.2 (c142.own 3 rfl encApiItem_len) (c142.ownZ 3 rfl) r40 (h41 (by rw [decide_eq_true h127, decide_eq_true h128] <;> rfl))) ?_
       rintro x w144 ⟨u143, rfl, c145⟩
       replace c145 := c142.call c145
       refine ⟨_, rfl, (hsub [1, 3, 4, 5, 6, 7, 8, 9, 10] (by kernel_rfl) rfl _ c145), ?_⟩
       refine wh_strong (Hs w0 [ownE 66 5 encApiItem u143.1 u143.2.1 u143.2.2 r40, ownE 66 5 encApiItem u135.1 u135.2.1 u135.2.2 r32, blkE b22 39 [.int .i64 r20.1.ID, .int .i64 r20.1.Household, .int .i64 r20.1.When.From, .int .i64 r20.1.When.To, .slice u21.1 u21.2.1 u21.2.2, .int .i64 r20.1.Total], ownE 66 5 encApiItem u21.1 u21.2.1 u21.2.2 r20.1.Items, blkE b19 39 [.int .i64 r17.1.ID, .int .i64 r17.1.Household, .int .i64 r17.1.When.From, .int .i64 r17.1.When.To, .slice u18.1 u18.2.1 u18.2.2, .int .i64 r17.1.Total], ownE 66 5 encApiItem u18.1 u18.2.1 u18.2.2 r17.1.Items, blkE b16 39 [.int .i64 r14.1.ID, .int .i64 r14.1.Household, .int .i64 r14.1.When.From, .int .i64 r14.1.When.To, .slice u15.1 u15.2.1 u15.2.2, .int .i64 r14.1.Total], ownE 66 5 encApiItem u15.1 u15.2.1 u15.2.2 r14.1.Items, blkE b6 36 [.int .i64 p1.ID, .int .i64 p1.Household, .int .i64 p1.When.From, .int .i64 p1.When.To], blkE b5 28 [.slice A_p01 n_p01 c_p01, .slice A_p02 n_p02 c_p02, .slice A_p03 n_p03 c_p03, .slice A_p04 n_p04 c_p04, .slice A_p05 n_p05 c_p05, .int .i64 p0.Gap]]) (fun w2 c2 => hsub [1, 2, 3, 4, 5, 6, 7, 8, 9] (by kernel_rfl) rfl w2 c2) ?_
       refine wh_ready [13] (by kernel_rfl) rfl ⟨?_, trivial⟩
       refine ws_append 85 2 (el := 66) (sz := 5) (bytes := 40) (enc := encApiItem) (l2 := r40) rfl (by kernel_rfl) (by kernel_rfl) encApiItem_len encApiItem_one rfl rfl rfl (c145.ownZ 0 rfl) (c145.own 0 rfl encApiItem_len) (h42 (by rw [decide_eq_true h127, decide_eq_true h128] <;> rfl)) (by kernel_rfl) c145 ?_
       intro A146 n147 k148 w149 c150
       refine ⟨(hsub [0, 1, 3, 4, 5, 6, 7, 8, 9, 10] (by kernel_rfl) rfl _ c150), ?_⟩
       refine wh_ready [15] (by kernel_rfl) rfl ⟨?_, trivial⟩
       refine ws_call 87 rfl (by kernel_rfl) (op_call (by kernel_rfl)) (m_recyclinglaw54_charged_ok N _ r14.1 u15.1 u15.2.1 u15.2.2 (c150.own 8 rfl encApiItem_len) (c150.ownZ 8 rfl) r48 (h49 (by rw [decide_eq_true h127, decide_eq_true h128] <;> rfl))) ?_
       rintro x w152 ⟨u151, rfl, c153⟩
       replace c153 := c150.call c153
       refine ⟨_, rfl, (hsub [1, 2, 4, 5, 6, 7, 8, 9, 10, 11] (by kernel_rfl) rfl _ c153), ?_⟩
       refine wh_strong (Hs w0 [ownE 66 5 encApiItem u151.1 u151.2.1 u151.2.2 r48, ownE 66 5 encApiItem u143.1 u143.2.1 u143.2.2 r40, ownE 66 5 encApiItem u135.1 u135.2.1 u135.2.2 r32, blkE b22 39 [.int .i64 r20.1.ID, .int .i64 r20.1.Household, .int .i64 r20.1.When.From, .int .i64 r20.1.When.To, .slice u21.1 u21.2.1 u21.2.2, .int .i64 r20.1.Total], ownE 66 5 encApiItem u21.1 u21.2.1 u21.2.2 r20.1.Items, blkE b19 39 [.int .i64 r17.1.ID, .int .i64 r17.1.Household, .int .i64 r17.1.When.From, .int .i64 r17.1.When.To, .slice u18.1 u18.2.1 u18.2.2, .int .i64 r17.1.Total], ownE 66 5 encApiItem u18.1 u18.2.1 u18.2.2 r17.1.Items, blkE b16 39 [.int .i64 r14.1.ID, .int .i64 r14.1.Household, .int .i64 r14.1.When.From, .int .i64 r14.1.When.To, .slice u15.1 u15.2.1 u15.2.2, .int .i64 r14.1.Total], ownE 66 5 encApiItem u15.1 u15.2.1 u15.2.2 r14.1.Items, blkE b6 36 [.int .i64 p1.ID, .int .i64 p1.Household, .int .i64 p1.When.From, .int .i64 p1.When.To], blkE b5 28 [.slice A_p01 n_p01 c_p01, .slice A_p02 n_p02 c_p02, .slice A_p03 n_p03 c_p03, .slice A_p04 n_p04 c_p04, .slice A_p05 n_p05 c_p05, .int .i64 p0.Gap]]) (fun w2 c2 => hsub [1, 2, 3, 4, 5, 6, 7, 8, 9, 10] (by kernel_rfl) rfl w2 c2) ?_
       refine wh_ready [16] (by kernel_rfl) rfl ⟨?_, trivial⟩
       refine ws_call 88 rfl (by kernel_rfl) (op_call (by kernel_rfl)) (m_recyclingref53_Same_ok N _ ((([] : List ApiItem) ++ r32) ++ r40) r48 A146 n147 k148 u151.1 u151.2.1 u151.2.2 (c153.own 3 rfl encApiItem_len) (c153.ownZ 3 rfl) (c153.own 0 rfl encApiItem_len) (c153.ownZ 0 rfl) r50 (h51 (by rw [decide_eq_true h127, decide_eq_true h128] <;> rfl))) ?_
       rintro x w155 ⟨u154, rfl, c156⟩
       replace c156 := c153.call c156
       refine ⟨_, rfl, (hsub [0, 1, 2, 4, 5, 6, 7, 8, 9, 10, 11] (by kernel_rfl) rfl _ c156), ?_⟩
       refine wh_split (fun h157 => ?_) (fun h157 => ?_)
       ·refine wh_take 17 89 rfl (by kernel_rfl) (by kernel_rfl) (fun w2 c2 => (op_pick_t (v := .bool true) rfl rfl)) (hsub [0, 1, 2, 4, 5, 6, 7, 8, 9, 10, 11] (by kernel_rfl) rfl _ c156) ?_
        refine wh_take 18 90 rfl (by kernel_rfl) (by kernel_rfl) (fun w2 c2 => (op_move (v := .bool true) rfl)) (hsub [0, 1, 2, 4, 5, 6, 7, 8, 9, 10, 11] (by kernel_rfl) rfl _ c156) ?_
        refine wh_take 19 91 rfl (by kernel_rfl) (by kernel_rfl) (fun w2 c2 => (op_fieldL (m := 5) (k := 5) rfl (by kernel_rfl) rfl)) (hsub [0, 1, 2, 4, 5, 6, 7, 8, 9, 10, 11] (by kernel_rfl) rfl _ c156) ?_
        refine wh_take 20 92 rfl (by kernel_rfl) (by kernel_rfl) (fun w2 c2 => (op_load rfl (by kernel_rfl) (c2.cell 5 (u := .int .i64 _) rfl rfl))) (hsub [0, 1, 2, 4, 5, 6, 7, 8, 9, 10, 11] (by kernel_rfl) rfl _ c156) ?_
        refine wh_take 21 93 rfl (by kernel_rfl) (by kernel_rfl) (fun w2 c2 => (op_fieldL (m := 5) (k := 5) rfl (by kernel_rfl) rfl)) (hsub [0, 1, 2, 4, 5, 6, 7, 8, 9, 10, 11] (by kernel_rfl) rfl _ c156) ?_
        refine wh_take 22 94 rfl (by kernel_rfl) (by kernel_rfl) (fun w2 c2 => (op_load rfl (by kernel_rfl) (c2.cell 3 (u := .int .i64 _) rfl rfl))) (hsub [0, 1, 2, 4, 5, 6, 7, 8, 9, 10, 11] (by kernel_rfl) rfl _ c156) ?_
        refine wh_take 23 95 rfl (by kernel_rfl) (by kernel_rfl) (fun w2 c2 => (op_add rfl rfl (h52 (by rw [decide_eq_true h127, decide_eq_true h128, h157] <;> rfl)))) (hsub [0, 1, 2, 4, 5, 6, 7, 8, 9, 10, 11] (by kernel_rfl) rfl _ c156) ?_
        refine wh_take 24 96 rfl (by kernel_rfl) (by kernel_rfl) (fun w2 c2 => (op_fieldL (m := 5) (k := 5) rfl (by kernel_rfl) rfl)) (hsub [0, 1, 2, 4, 5, 6, 7, 8, 9, 10, 11] (by kernel_rfl) rfl _ c156) ?_
        refine wh_take 25 97 rfl (by kernel_rfl) (by kernel_rfl) (fun w2 c2 => (op_load rfl (by kernel_rfl) (c2.cell 7 (u := .int .i64 _) rfl rfl))) (hsub [0, 1, 2, 4, 5, 6, 7, 8, 9, 10, 11] (by kernel_rfl) rfl _ c156) ?_
        refine wh_dec 26 98 rfl (by kernel_rfl) (by kernel_rfl) (fun w2 c2 => (op_eql rfl rfl)) (hsub [0, 1, 2, 4, 5, 6, 7, 8, 9, 10, 11] (by kernel_rfl) rfl _ c156) (fun h158 => ?_) (fun h158 => ?_)
        ·refine wh_take 27 99 rfl (by kernel_rfl) (by kernel_rfl) (fun w2 c2 => (op_pick_t (v := .bool true) rfl rfl)) (hsub [0, 1, 2, 4, 5, 6, 7, 8, 9, 10, 11] (by kernel_rfl) rfl _ c156) ?_
         refine wh_take 28 100 rfl (by kernel_rfl) (by kernel_rfl) (fun w2 c2 => (op_move (v := .bool true) rfl)) (hsub [0, 1, 2, 4, 5, 6, 7, 8, 9, 10, 11] (by kernel_rfl) rfl _ c156) ?_
         refine wh_ready [29] (by kernel_rfl) rfl ⟨?_, trivial⟩
         refine ws_call 101 rfl (by kernel_rfl) (op_call (by kernel_rfl)) (m_recyclinglaw54_awake_ok N _  (hs_tab ht c156) r53 (h54 (by rw [decide_eq_true h127, decide_eq_true h128, h157, decide_eq_true h158] <;> rfl))) ?_
         rintro x w160 ⟨u159, rfl, c161⟩
         replace c161 := c156.call c161
         refine ⟨_, rfl, (hsub [0, 1, 2, 4, 5, 6, 7, 8, 9, 10, 11] (by kernel_rfl) rfl _ c161), ?_⟩
         refine wh_take 30 102 rfl (by kernel_rfl) (by kernel_rfl) (fun w2 c2 => (op_pick_t (v := .bool _) rfl rfl)) (hsub [0, 1, 2, 4, 5, 6, 7, 8, 9, 10, 11] (by kernel_rfl) rfl _ c161) ?_
         refine wh_take 31 6 rfl (by kernel_rfl) (by kernel_rfl) (fun w2 c2 => (op_assign (v := .bool _) rfl)) (hsub [0, 1, 2, 4, 5, 6, 7, 8, 9, 10, 11] (by kernel_rfl) rfl _ c161) ?_
         exact wh_done () (by kernel_rfl) (sub_cons (by kernel_rfl) (congrArg Value.bool (by rw [decide_eq_true h127, decide_eq_true h128, h157, decide_eq_true h158] <;> rfl)) sub_nil) (hsub [] (by kernel_rfl) rfl _ c161)
        ·refine wh_take 27 99 rfl (by kernel_rfl) (by kernel_rfl) (fun w2 c2 => (op_pick_t (v := .bool false) rfl rfl)) (hsub [0, 1, 2, 4, 5, 6, 7, 8, 9, 10, 11] (by kernel_rfl) rfl _ c156) ?_
         refine wh_take 28 100 rfl (by kernel_rfl) (by kernel_rfl) (fun w2 c2 => (op_move (v := .bool false) rfl)) (hsub [0, 1, 2, 4, 5, 6, 7, 8, 9, 10, 11] (by kernel_rfl) rfl _ c156) ?_
         refine wh_skip 29 101 rfl (by kernel_rfl) (by kernel_rfl) (hsub [0, 1, 2, 4, 5, 6, 7, 8, 9, 10, 11] (by kernel_rfl) rfl _ c156) ?_
         refine wh_take 30 102 rfl (by kernel_rfl) (by kernel_rfl) (fun w2 c2 => (op_pick_f (v := .bool false) rfl rfl)) (hsub [0, 1, 2, 4, 5, 6, 7, 8, 9, 10, 11] (by kernel_rfl) rfl _ c156) ?_
         refine wh_take 31 6 rfl (by kernel_rfl) (by kernel_rfl) (fun w2 c2 => (op_assign (v := .bool false) rfl)) (hsub [0, 1, 2, 4, 5, 6, 7, 8, 9, 10, 11] (by kernel_rfl) rfl _ c156) ?_
         exact wh_done () (by kernel_rfl) (sub_cons (by kernel_rfl) (congrArg Value.bool (by rw [decide_eq_true h127, decide_eq_true h128, h157, decide_eq_false h158] <;> rfl)) sub_nil) (hsub [] (by kernel_rfl) rfl _ c156)
       ·refine wh_take 17 89 rfl (by kernel_rfl) (by kernel_rfl) (fun w2 c2 => (op_pick_t (v := .bool false) rfl rfl)) (hsub [0, 1, 2, 4, 5, 6, 7, 8, 9, 10, 11] (by kernel_rfl) rfl _ c156) ?_
        refine wh_take 18 90 rfl (by kernel_rfl) (by kernel_rfl) (fun w2 c2 => (op_move (v := .bool false) rfl)) (hsub [0, 1, 2, 4, 5, 6, 7, 8, 9, 10, 11] (by kernel_rfl) rfl _ c156) ?_
        refine wh_skip 19 91 rfl (by kernel_rfl) (by kernel_rfl) (hsub [0, 1, 2, 4, 5, 6, 7, 8, 9, 10, 11] (by kernel_rfl) rfl _ c156) ?_
        refine wh_skip 20 92 rfl (by kernel_rfl) (by kernel_rfl) (hsub [0, 1, 2, 4, 5, 6, 7, 8, 9, 10, 11] (by kernel_rfl) rfl _ c156) ?_
        refine wh_skip 21 93 rfl (by kernel_rfl) (by kernel_rfl) (hsub [0, 1, 2, 4, 5, 6, 7, 8, 9, 10, 11] (by kernel_rfl) rfl _ c156) ?_
        refine wh_skip 22 94 rfl (by kernel_rfl) (by kernel_rfl) (hsub [0, 1, 2, 4, 5, 6, 7, 8, 9, 10, 11] (by kernel_rfl) rfl _ c156) ?_
        refine wh_skip 23 95 rfl (by kernel_rfl) (by kernel_rfl) (hsub [0, 1, 2, 4, 5, 6, 7, 8, 9, 10, 11] (by kernel_rfl) rfl _ c156) ?_
        refine wh_skip 24 96 rfl (by kernel_rfl) (by kernel_rfl) (hsub [0, 1, 2, 4, 5, 6, 7, 8, 9, 10, 11] (by kernel_rfl) rfl _ c156) ?_
        refine wh_skip 25 97 rfl (by kernel_rfl) (by kernel_rfl) (hsub [0, 1, 2, 4, 5, 6, 7, 8, 9, 10, 11] (by kernel_rfl) rfl _ c156) ?_
        refine wh_skip 26 98 rfl (by kernel_rfl) (by kernel_rfl) (hsub [0, 1, 2, 4, 5, 6, 7, 8, 9, 10, 11] (by kernel_rfl) rfl _ c156) ?_
        refine wh_take 27 99 rfl (by kernel_rfl) (by kernel_rfl) (fun w2 c2 => (op_pick_f (v := .bool false) rfl rfl)) (hsub [0, 1, 2, 4, 5, 6, 7, 8, 9, 10, 11] (by kernel_rfl) rfl _ c156) ?_
        refine wh_take 28 100 rfl (by kernel_rfl) (by kernel_rfl) (fun w2 c2 => (op_move (v := .bool false) rfl)) (hsub [0, 1, 2, 4, 5, 6, 7, 8, 9, 10, 11] (by kernel_rfl) rfl _ c156) ?_
        refine wh_skip 29 101 rfl (by kernel_rfl) (by kernel_rfl) (hsub [0, 1, 2, 4, 5, 6, 7, 8, 9, 10, 11] (by kernel_rfl) rfl _ c156) ?_
        refine wh_take 30 102 rfl (by kernel_rfl) (by kernel_rfl) (fun w2 c2 => (op_pick_f (v := .bool false) rfl rfl)) (hsub [0, 1, 2, 4, 5, 6, 7, 8, 9, 10, 11] (by kernel_rfl) rfl _ c156) ?_
        refine wh_take 31 6 rfl (by kernel_rfl) (by kernel_rfl) (fun w2 c2 => (op_assign (v := .bool false) rfl)) (hsub [0, 1, 2, 4, 5, 6, 7, 8, 9, 10, 11] (by kernel_rfl) rfl _ c156) ?_
        exact wh_done () (by kernel_rfl) (sub_cons (by kernel_rfl) (congrArg Value.bool (by rw [decide_eq_true h127, decide_eq_true h128, h157] <;> rfl)) sub_nil) (hsub [] (by kernel_rfl) rfl _ c156)
      ·refine ws_call 81 rfl (by kernel_rfl) (op_call (by kernel_rfl)) (m_recyclinglaw54_charged_ok N _ r17.1 u18.1 u18.2.1 u18.2.2 (c126.own 3 rfl encApiItem_len) (c126.ownZ 3 rfl) r32 (h33 (by rw [decide_eq_true h127, decide_eq_true h128] <;> rfl))) ?_
       rintro x w163 ⟨u162, rfl, c164⟩
       replace c164 := c126.call c164
       refine ⟨_, rfl, (hsub [1, 2, 3, 4, 5, 6, 7, 8] (by kernel_rfl) rfl _ c164), ?_⟩
       refine wh_strong (Hs w0 [ownE 66 5 encApiItem u162.1 u162.2.1 u162.2.2 r32, blkE b22 39 [.int .i64 r20.1.ID, .int .i64 r20.1.Household, .int .i64 r20.1.When.From, .int .i64 r20.1.When.To, .slice u21.1 u21.2.1 u21.2.2, .int .i64 r20.1.Total], ownE 66 5 encApiItem u21.1 u21.2.1 u21.2.2 r20.1.Items, blkE b19 39 [.int .i64 r17.1.ID, .int .i64 r17.1.Household, .int .i64 r17.1.When.From, .int .i64 r17.1.When.To, .slice u18.1 u18.2.1 u18.2.2, .int .i64 r17.1.Total], ownE 66 5 encApiItem u18.1 u18.2.1 u18.2.2 r17.1.Items, blkE b16 39 [.int .i64 r14.1.ID, .int .i64 r14.1.Household, .int .i64 r14.1.When.From, .int .i64 r14.1.When.To, .slice u15.1 u15.2.1 u15.2.2, .int .i64 r14.1.Total], ownE 66 5 encApiItem u15.1 u15.2.1 u15.2.2 r14.1.Items, blkE b6 36 [.int .i64 p1.ID, .int .i64 p1.Household, .int .i64 p1.When.From, .int .i64 p1.When.To], blkE b5 28 [.slice A_p01 n_p01 c_p01, .slice A_p02 n_p02 c_p02, .slice A_p03 n_p03 c_p03, .slice A_p04 n_p04 c_p04, .slice A_p05 n_p05 c_p05, .int .i64 p0.Gap]]) (fun w2 c2 => hsub [1, 2, 3, 4, 5, 6, 7, 8] (by kernel_rfl) rfl w2 c2) ?_
       refine wh_ready [7] (by kernel_rfl) rfl ⟨?_, trivial⟩
       refine ws_slice0 79 (el := 66) (sz := 5) (bytes := 40) (enc := encApiItem) rfl (by kernel_rfl) (by kernel_rfl) c164 ?_
       intro A165 n166 k167 w168 c169
       refine ⟨(hsub [1, 2, 3, 4, 5, 6, 7, 8, 9] (by kernel_rfl) rfl _ c169), ?_⟩
       refine wh_ready [10] (by kernel_rfl) rfl ⟨?_, trivial⟩
       refine ws_append 82 0 (el := 66) (sz := 5) (bytes := 40) (enc := encApiItem) (l2 := r32) rfl (by kernel_rfl) (by kernel_rfl) encApiItem_len encApiItem_one rfl rfl rfl (c169.ownZ 1 rfl) (c169.own 1 rfl encApiItem_len) (h34 (by rw [decide_eq_true h127, decide_eq_true h128] <;> rfl)) (by kernel_rfl) c169 ?_
       intro A171 n172 k173 w174 c175
       refine ⟨(hsub [1, 2, 3, 4, 5, 6, 7, 8, 9] (by kernel_rfl) rfl _ c175), ?_⟩
       refine wh_ready [12] (by kernel_rfl) rfl ⟨?_, trivial⟩
       refine ws_call 84 rfl (by kernel_rfl) (op_call (by kernel_rfl)) (m_recyclinglaw54_charged_ok N _ r20.1 u21.1 u21.2.1 u21.2.2 (c175.own 3 rfl encApiItem_len) (c175.ownZ 3 rfl) r40 (h41 (by rw [decide_eq_true h127, decide_eq_true h128] <;> rfl))) ?_
       rintro x w177 ⟨u176, rfl, c178⟩
       replace c178 := c175.call c178
       refine ⟨_, rfl, (hsub [2, 3, 4, 5, 6, 7, 8, 9, 10] (by kernel_rfl) rfl _ c178), ?_⟩
       refine wh_strong (Hs w0 [ownE 66 5 encApiItem u176.1 u176.2.1 u176.2.2 r40, ownE 66 5 encApiItem u162.1 u162.2.1 u162.2.2 r32, blkE b22 39 [.int .i64 r20.1.ID, .int .i64 r20.1.Household, .int .i64 r20.1.When.From, .int .i64 r20.1.When.To, .slice u21.1 u21.2.1 u21.2.2, .int .i64 r20.1.Total], ownE 66 5 encApiItem u21.1 u21.2.1 u21.2.2 r20.1.Items, blkE b19 39 [.int .i64 r17.1.ID, .int .i64 r17.1.Household, .int .i64 r17.1.When.From, .int .i64 r17.1.When.To, .slice u18.1 u18.2.1 u18.2.2, .int .i64 r17.1.Total], ownE 66 5 encApiItem u18.1 u18.2.1 u18.2.2 r17.1.Items, blkE b16 39 [.int .i64 r14.1.ID, .int .i64 r14.1.Household, .int .i64 r14.1.When.From, .int .i64 r14.1.When.To, .slice u15.1 u15.2.1 u15.2.2, .int .i64 r14.1.Total], ownE 66 5 encApiItem u15.1 u15.2.1 u15.2.2 r14.1.Items, blkE b6 36 [.int .i64 p1.ID, .int .i64 p1.Household, .int .i64 p1.When.From, .int .i64 p1.When.To], blkE b5 28 [.slice A_p01 n_p01 c_p01, .slice A_p02 n_p02 c_p02, .slice A_p03 n_p03 c_p03, .slice A_p04 n_p04 c_p04, .slice A_p05 n_p05 c_p05, .int .i64 p0.Gap]]) (fun w2 c2 => hsub [1, 2, 3, 4, 5, 6, 7, 8, 9] (by kernel_rfl) rfl w2 c2) ?_
       refine wh_ready [13] (by kernel_rfl) rfl ⟨?_, trivial⟩
       refine ws_append 85 1 (el := 66) (sz := 5) (bytes := 40) (enc := encApiItem) (l2 := r40) rfl (by kernel_rfl) (by kernel_rfl) encApiItem_len encApiItem_one rfl rfl rfl (c178.ownZ 0 rfl) (c178.own 0 rfl encApiItem_len) (h42 (by rw [decide_eq_true h127, decide_eq_true h128] <;> rfl)) (by kernel_rfl) c178 ?_
       intro A179 n180 k181 w182 c183
       refine ⟨(hsub [0, 2, 3, 4, 5, 6, 7, 8, 9, 10] (by kernel_rfl) rfl _ c183), ?_⟩
       refine wh_ready [15] (by kernel_rfl) rfl ⟨?_, trivial⟩
       refine ws_call 87 rfl (by kernel_rfl) (op_call (by kernel_rfl)) (m_recyclinglaw54_charged_ok N _ r14.1 u15.1 u15.2.1 u15.2.2 (c183.own 8 rfl encApiItem_len) (c183.ownZ 8 rfl) r48 (h49 (by rw [decide_eq_true h127, decide_eq_true h128] <;> rfl))) ?_
       rintro x w185 ⟨u184, rfl, c186⟩
       replace c186 := c183.call c186
       refine ⟨_, rfl, (hsub [1, 3, 4, 5, 6, 7, 8, 9, 10, 11] (by kernel_rfl) rfl _ c186), ?_⟩
       refine wh_strong (Hs w0 [ownE 66 5 encApiItem u184.1 u184.2.1 u184.2.2 r48, ownE 66 5 encApiItem u176.1 u176.2.1 u176.2.2 r40, ownE 66 5 encApiItem u162.1 u162.2.1 u162.2.2 r32, blkE b22 39 [.int .i64 r20.1.ID, .int .i64 r20.1.Household, .int .i64 r20.1.When.From, .int .i64 r20.1.When.To, .slice u21.1 u21.2.1 u21.2.2, .int .i64 r20.1.Total], ownE 66 5 encApiItem u21.1 u21.2.1 u21.2.2 r20.1.Items, blkE b19 39 [.int .i64 r17.1.ID, .int .i64 r17.1.Household, .int .i64 r17.1.When.From, .int .i64 r17.1.When.To, .slice u18.1 u18.2.1 u18.2.2, .int .i64 r17.1.Total], ownE 66 5 encApiItem u18.1 u18.2.1 u18.2.2 r17.1.Items, blkE b16 39 [.int .i64 r14.1.ID, .int .i64 r14.1.Household, .int .i64 r14.1.When.From, .int .i64 r14.1.When.To, .slice u15.1 u15.2.1 u15.2.2, .int .i64 r14.1.Total], ownE 66 5 encApiItem u15.1 u15.2.1 u15.2.2 r14.1.Items, blkE b6 36 [.int .i64 p1.ID, .int .i64 p1.Household, .int .i64 p1.When.From, .int .i64 p1.When.To], blkE b5 28 [.slice A_p01 n_p01 c_p01, .slice A_p02 n_p02 c_p02, .slice A_p03 n_p03 c_p03, .slice A_p04 n_p04 c_p04, .slice A_p05 n_p05 c_p05, .int .i64 p0.Gap]]) (fun w2 c2 => hsub [1, 2, 3, 4, 5, 6, 7, 8, 9, 10] (by kernel_rfl) rfl w2 c2) ?_
       refine wh_ready [16] (by kernel_rfl) rfl ⟨?_, trivial⟩
       refine ws_call 88 rfl (by kernel_rfl) (op_call (by kernel_rfl)) (m_recyclingref53_Same_ok N _ ((([] : List ApiItem) ++ r32) ++ r40) r48 A179 n180 k181 u184.1 u184.2.1 u184.2.2 (c186.own 2 rfl encApiItem_len) (c186.ownZ 2 rfl) (c186.own 0 rfl encApiItem_len) (c186.ownZ 0 rfl) r50 (h51 (by rw [decide_eq_true h127, decide_eq_true h128] <;> rfl))) ?_
       rintro x w188 ⟨u187, rfl, c189⟩
       replace c189 := c186.call c189
       refine ⟨_, rfl, (hsub [0, 1, 3, 4, 5, 6, 7, 8, 9, 10, 11] (by kernel_rfl) rfl _ c189), ?_⟩
       refine wh_split (fun h190 => ?_) (fun h190 => ?_)
       ·refine wh_take 17 89 rfl (by kernel_rfl) (by kernel_rfl) (fun w2 c2 => (op_pick_t (v := .bool true) rfl rfl)) (hsub [0, 1, 3, 4, 5, 6, 7, 8, 9, 10, 11] (by kernel_rfl) rfl _ c189) ?_
        refine wh_take 18 90 rfl (by kernel_rfl) (by kernel_rfl) (fun w2 c2 => (op_move (v := .bool true) rfl)) (hsub [0, 1, 3, 4, 5, 6, 7, 8, 9, 10, 11] (by kernel_rfl) rfl _ c189) ?_
        refine wh_take 19 91 rfl (by kernel_rfl) (by kernel_rfl) (fun w2 c2 => (op_fieldL (m := 5) (k := 5) rfl (by kernel_rfl) rfl)) (hsub [0, 1, 3, 4, 5, 6, 7, 8, 9, 10, 11] (by kernel_rfl) rfl _ c189) ?_
        refine wh_take 20 92 rfl (by kernel_rfl) (by kernel_rfl) (fun w2 c2 => (op_load rfl (by kernel_rfl) (c2.cell 5 (u := .int .i64 _) rfl rfl))) (hsub [0, 1, 3, 4, 5, 6, 7, 8, 9, 10, 11] (by kernel_rfl) rfl _ c189) ?_
        refine wh_take 21 93 rfl (by kernel_rfl) (by kernel_rfl) (fun w2 c2 => (op_fieldL (m := 5) (k := 5) rfl (by kernel_rfl) rfl)) (hsub [0, 1, 3, 4, 5, 6, 7, 8, 9, 10, 11] (by kernel_rfl) rfl _ c189) ?_
        refine wh_take 22 94 rfl (by kernel_rfl) (by kernel_rfl) (fun w2 c2 => (op_load rfl (by kernel_rfl) (c2.cell 3 (u := .int .i64 _) rfl rfl))) (hsub [0, 1, 3, 4, 5, 6, 7, 8, 9, 10, 11] (by kernel_rfl) rfl _ c189) ?_
        refine wh_take 23 95 rfl (by kernel_rfl) (by kernel_rfl) (fun w2 c2 => (op_add rfl rfl (h52 (by rw [decide_eq_true h127, decide_eq_true h128, h190] <;> rfl)))) (hsub [0, 1, 3, 4, 5, 6, 7, 8, 9, 10, 11] (by kernel_rfl) rfl _ c189) ?_
        refine wh_take 24 96 rfl (by kernel_rfl) (by kernel_rfl) (fun w2 c2 => (op_fieldL (m := 5) (k := 5) rfl (by kernel_rfl) rfl)) (hsub [0, 1, 3, 4, 5, 6, 7, 8, 9, 10, 11] (by kernel_rfl) rfl _ c189) ?_
        refine wh_take 25 97 rfl (by kernel_rfl) (by kernel_rfl) (fun w2 c2 => (op_load rfl (by kernel_rfl) (c2.cell 7 (u := .int .i64 _) rfl rfl))) (hsub [0, 1, 3, 4, 5, 6, 7, 8, 9, 10, 11] (by kernel_rfl) rfl _ c189) ?_
        refine wh_dec 26 98 rfl (by kernel_rfl) (by kernel_rfl) (fun w2 c2 => (op_eql rfl rfl)) (hsub [0, 1, 3, 4, 5, 6, 7, 8, 9, 10, 11] (by kernel_rfl) rfl _ c189) (fun h191 => ?_) (fun h191 => ?_)
        ·refine wh_take 27 99 rfl (by kernel_rfl) (by kernel_rfl) (fun w2 c2 => (op_pick_t (v := .bool true) rfl rfl)) (hsub [0, 1, 3, 4, 5, 6, 7, 8, 9, 10, 11] (by kernel_rfl) rfl _ c189) ?_
         refine wh_take 28 100 rfl (by kernel_rfl) (by kernel_rfl) (fun w2 c2 => (op_move (v := .bool true) rfl)) (hsub [0, 1, 3, 4, 5, 6, 7, 8, 9, 10, 11] (by kernel_rfl) rfl _ c189) ?_
         refine wh_ready [29] (by kernel_rfl) rfl ⟨?_, trivial⟩
         refine ws_call 101 rfl (by kernel_rfl) (op_call (by kernel_rfl)) (m_recyclinglaw54_awake_ok N _  (hs_tab ht c189) r53 (h54 (by rw [decide_eq_true h127, decide_eq_true h128, h190, decide_eq_true h191] <;> rfl))) ?_
         rintro x w193 ⟨u192, rfl, c194⟩
         replace c194 := c189.call c194
         refine ⟨_, rfl, (hsub [0, 1, 3, 4, 5, 6, 7, 8, 9, 10, 11] (by kernel_rfl) rfl _ c194), ?_⟩
         refine wh_take 30 102 rfl (by kernel_rfl) (by kernel_rfl) (fun w2 c2 => (op_pick_t (v := .bool _) rfl rfl)) (hsub [0, 1, 3, 4, 5, 6, 7, 8, 9, 10, 11] (by kernel_rfl) rfl _ c194) ?_
         refine wh_take 31 6 rfl (by kernel_rfl) (by kernel_rfl) (fun w2 c2 => (op_assign (v := .bool _) rfl)) (hsub [0, 1, 3, 4, 5, 6, 7, 8, 9, 10, 11] (by kernel_rfl) rfl _ c194) ?_
         exact wh_done () (by kernel_rfl) (sub_cons (by kernel_rfl) (congrArg Value.bool (by rw [decide_eq_true h127, decide_eq_true h128, h190, decide_eq_true h191] <;> rfl)) sub_nil) (hsub [] (by kernel_rfl) rfl _ c194)
        ·refine wh_take 27 99 rfl (by kernel_rfl) (by kernel_rfl) (fun w2 c2 => (op_pick_t (v := .bool false) rfl rfl)) (hsub [0, 1, 3, 4, 5, 6, 7, 8, 9, 10, 11] (by kernel_rfl) rfl _ c189) ?_
         refine wh_take 28 100 rfl (by kernel_rfl) (by kernel_rfl) (fun w2 c2 => (op_move (v := .bool false) rfl)) (hsub [0, 1, 3, 4, 5, 6, 7, 8, 9, 10, 11] (by kernel_rfl) rfl _ c189) ?_
         refine wh_skip 29 101 rfl (by kernel_rfl) (by kernel_rfl) (hsub [0, 1, 3, 4, 5, 6, 7, 8, 9, 10, 11] (by kernel_rfl) rfl _ c189) ?_
         refine wh_take 30 102 rfl (by kernel_rfl) (by kernel_rfl) (fun w2 c2 => (op_pick_f (v := .bool false) rfl rfl)) (hsub [0, 1, 3, 4, 5, 6, 7, 8, 9, 10, 11] (by kernel_rfl) rfl _ c189) ?_
         refine wh_take 31 6 rfl (by kernel_rfl) (by kernel_rfl) (fun w2 c2 => (op_assign (v := .bool false) rfl)) (hsub [0, 1, 3, 4, 5, 6, 7, 8, 9, 10, 11] (by kernel_rfl) rfl _ c189) ?_
         exact wh_done () (by kernel_rfl) (sub_cons (by kernel_rfl) (congrArg Value.bool (by rw [decide_eq_true h127, decide_eq_true h128, h190, decide_eq_false h191] <;> rfl)) sub_nil) (hsub [] (by kernel_rfl) rfl _ c189)
       ·refine wh_take 17 89 rfl (by kernel_rfl) (by kernel_rfl) (fun w2 c2 => (op_pick_t (v := .bool false) rfl rfl)) (hsub [0, 1, 3, 4, 5, 6, 7, 8, 9, 10, 11] (by kernel_rfl) rfl _ c189) ?_
        refine wh_take 18 90 rfl (by kernel_rfl) (by kernel_rfl) (fun w2 c2 => (op_move (v := .bool false) rfl)) (hsub [0, 1, 3, 4, 5, 6, 7, 8, 9, 10, 11] (by kernel_rfl) rfl _ c189) ?_
        refine wh_skip 19 91 rfl (by kernel_rfl) (by kernel_rfl) (hsub [0, 1, 3, 4, 5, 6, 7, 8, 9, 10, 11] (by kernel_rfl) rfl _ c189) ?_
        refine wh_skip 20 92 rfl (by kernel_rfl) (by kernel_rfl) (hsub [0, 1, 3, 4, 5, 6, 7, 8, 9, 10, 11] (by kernel_rfl) rfl _ c189) ?_
        refine wh_skip 21 93 rfl (by kernel_rfl) (by kernel_rfl) (hsub [0, 1, 3, 4, 5, 6, 7, 8, 9, 10, 11] (by kernel_rfl) rfl _ c189) ?_
        refine wh_skip 22 94 rfl (by kernel_rfl) (by kernel_rfl) (hsub [0, 1, 3, 4, 5, 6, 7, 8, 9, 10, 11] (by kernel_rfl) rfl _ c189) ?_
        refine wh_skip 23 95 rfl (by kernel_rfl) (by kernel_rfl) (hsub [0, 1, 3, 4, 5, 6, 7, 8, 9, 10, 11] (by kernel_rfl) rfl _ c189) ?_
        refine wh_skip 24 96 rfl (by kernel_rfl) (by kernel_rfl) (hsub [0, 1, 3, 4, 5, 6, 7, 8, 9, 10, 11] (by kernel_rfl) rfl _ c189) ?_
        refine wh_skip 25 97 rfl (by kernel_rfl) (by kernel_rfl) (hsub [0, 1, 3, 4, 5, 6, 7, 8, 9, 10, 11] (by kernel_rfl) rfl _ c189) ?_
        refine wh_skip 26 98 rfl (by kernel_rfl) (by kernel_rfl) (hsub [0, 1, 3, 4, 5, 6, 7, 8, 9, 10, 11] (by kernel_rfl) rfl _ c189) ?_
        refine wh_take 27 99 rfl (by kernel_rfl) (by kernel_rfl) (fun w2 c2 => (op_pick_f (v := .bool false) rfl rfl)) (hsub [0, 1, 3, 4, 5, 6, 7, 8, 9, 10, 11] (by kernel_rfl) rfl _ c189) ?_
        refine wh_take 28 100 rfl (by kernel_rfl) (by kernel_rfl) (fun w2 c2 => (op_move (v := .bool false) rfl)) (hsub [0, 1, 3, 4, 5, 6, 7, 8, 9, 10, 11] (by kernel_rfl) rfl _ c189) ?_
        refine wh_skip 29 101 rfl (by kernel_rfl) (by kernel_rfl) (hsub [0, 1, 3, 4, 5, 6, 7, 8, 9, 10, 11] (by kernel_rfl) rfl _ c189) ?_
        refine wh_take 30 102 rfl (by kernel_rfl) (by kernel_rfl) (fun w2 c2 => (op_pick_f (v := .bool false) rfl rfl)) (hsub [0, 1, 3, 4, 5, 6, 7, 8, 9, 10, 11] (by kernel_rfl) rfl _ c189) ?_
        refine wh_take 31 6 rfl (by kernel_rfl) (by kernel_rfl) (fun w2 c2 => (op_assign (v := .bool false) rfl)) (hsub [0, 1, 3, 4, 5, 6, 7, 8, 9, 10, 11] (by kernel_rfl) rfl _ c189) ?_
        exact wh_done () (by kernel_rfl) (sub_cons (by kernel_rfl) (congrArg Value.bool (by rw [decide_eq_true h127, decide_eq_true h128, h190] <;> rfl)) sub_nil) (hsub [] (by kernel_rfl) rfl _ c189)
     ·refine wh_take 5 77 rfl (by kernel_rfl) (by kernel_rfl) (fun w2 c2 => (op_pick_t (v := .bool false) rfl rfl)) (hsub [0, 1, 2, 3, 4, 5, 6, 7] (by kernel_rfl) rfl _ c126) ?_
      refine wh_take 6 78 rfl (by kernel_rfl) (by kernel_rfl) (fun w2 c2 => (op_move (v := .bool false) rfl)) (hsub [0, 1, 2, 3, 4, 5, 6, 7] (by kernel_rfl) rfl _ c126) ?_
      refine wh_skip 7 79 rfl (by kernel_rfl) (by kernel_rfl) (hsub [0, 1, 2, 3, 4, 5, 6, 7] (by kernel_rfl) rfl _ c126) ?_
      refine wh_skip 8 80 rfl (by kernel_rfl) (by kernel_rfl) (hsub [0, 1, 2, 3, 4, 5, 6, 7] (by kernel_rfl) rfl _ c126) ?_
      refine wh_skip 9 81 rfl (by kernel_rfl) (by kernel_rfl) (hsub [0, 1, 2, 3, 4, 5, 6, 7] (by kernel_rfl) rfl _ c126) ?_
      refine wh_skip 10 82 rfl (by kernel_rfl) (by kernel_rfl) (hsub [0, 1, 2, 3, 4, 5, 6, 7] (by kernel_rfl) rfl _ c126) ?_
      refine wh_skip 11 83 rfl (by kernel_rfl) (by kernel_rfl) (hsub [0, 1, 2, 3, 4, 5, 6, 7] (by kernel_rfl) rfl _ c126) ?_
      refine wh_skip 12 84 rfl (by kernel_rfl) (by kernel_rfl) (hsub [0, 1, 2, 3, 4, 5, 6, 7] (by kernel_rfl) rfl _ c126) ?_
      refine wh_skip 13 85 rfl (by kernel_rfl) (by kernel_rfl) (hsub [0, 1, 2, 3, 4, 5, 6, 7] (by kernel_rfl) rfl _ c126) ?_
      refine wh_skip 14 86 rfl (by kernel_rfl) (by kernel_rfl) (hsub [0, 1, 2, 3, 4, 5, 6, 7] (by kernel_rfl) rfl _ c126) ?_
      refine wh_skip 15 87 rfl (by kernel_rfl) (by kernel_rfl) (hsub [0, 1, 2, 3, 4, 5, 6, 7] (by kernel_rfl) rfl _ c126) ?_
      refine wh_skip 16 88 rfl (by kernel_rfl) (by kernel_rfl) (hsub [0, 1, 2, 3, 4, 5, 6, 7] (by kernel_rfl) rfl _ c126) ?_
      refine wh_take 17 89 rfl (by kernel_rfl) (by kernel_rfl) (fun w2 c2 => (op_pick_f (v := .bool false) rfl rfl)) (hsub [0, 1, 2, 3, 4, 5, 6, 7] (by kernel_rfl) rfl _ c126) ?_
      refine wh_take 18 90 rfl (by kernel_rfl) (by kernel_rfl) (fun w2 c2 => (op_move (v := .bool false) rfl)) (hsub [0, 1, 2, 3, 4, 5, 6, 7] (by kernel_rfl) rfl _ c126) ?_
      refine wh_skip 19 91 rfl (by kernel_rfl) (by kernel_rfl) (hsub [0, 1, 2, 3, 4, 5, 6, 7] (by kernel_rfl) rfl _ c126) ?_
      refine wh_skip 20 92 rfl (by kernel_rfl) (by kernel_rfl) (hsub [0, 1, 2, 3, 4, 5, 6, 7] (by kernel_rfl) rfl _ c126) ?_
      refine wh_skip 21 93 rfl (by kernel_rfl) (by kernel_rfl) (hsub [0, 1, 2, 3, 4, 5, 6, 7] (by kernel_rfl) rfl _ c126) ?_
      refine wh_skip 22 94 rfl (by kernel_rfl) (by kernel_rfl) (hsub [0, 1, 2, 3, 4, 5, 6, 7] (by kernel_rfl) rfl _ c126) ?_
      refine wh_skip 23 95 rfl (by kernel_rfl) (by kernel_rfl) (hsub [0, 1, 2, 3, 4, 5, 6, 7] (by kernel_rfl) rfl _ c126) ?_
      refine wh_skip 24 96 rfl (by kernel_rfl) (by kernel_rfl) (hsub [0, 1, 2, 3, 4, 5, 6, 7] (by kernel_rfl) rfl _ c126) ?_
      refine wh_skip 25 97 rfl (by kernel_rfl) (by kernel_rfl) (hsub [0, 1, 2, 3, 4, 5, 6, 7] (by kernel_rfl) rfl _ c126) ?_
      refine wh_skip 26 98 rfl (by kernel_rfl) (by kernel_rfl) (hsub [0, 1, 2, 3, 4, 5, 6, 7] (by kernel_rfl) rfl _ c126) ?_
      refine wh_take 27 99 rfl (by kernel_rfl) (by kernel_rfl) (fun w2 c2 => (op_pick_f (v := .bool false) rfl rfl)) (hsub [0, 1, 2, 3, 4, 5, 6, 7] (by kernel_rfl) rfl _ c126) ?_
      refine wh_take 28 100 rfl (by kernel_rfl) (by kernel_rfl) (fun w2 c2 => (op_move (v := .bool false) rfl)) (hsub [0, 1, 2, 3, 4, 5, 6, 7] (by kernel_rfl) rfl _ c126) ?_
      refine wh_skip 29 101 rfl (by kernel_rfl) (by kernel_rfl) (hsub [0, 1, 2, 3, 4, 5, 6, 7] (by kernel_rfl) rfl _ c126) ?_
      refine wh_take 30 102 rfl (by kernel_rfl) (by kernel_rfl) (fun w2 c2 => (op_pick_f (v := .bool false) rfl rfl)) (hsub [0, 1, 2, 3, 4, 5, 6, 7] (by kernel_rfl) rfl _ c126) ?_
      refine wh_take 31 6 rfl (by kernel_rfl) (by kernel_rfl) (fun w2 c2 => (op_assign (v := .bool false) rfl)) (hsub [0, 1, 2, 3, 4, 5, 6, 7] (by kernel_rfl) rfl _ c126) ?_
      exact wh_done () (by kernel_rfl) (sub_cons (by kernel_rfl) (congrArg Value.bool (by rw [decide_eq_true h127, decide_eq_false h128] <;> rfl)) sub_nil) (hsub [] (by kernel_rfl) rfl _ c126)
    ·refine wh_take 2 74 rfl (by kernel_rfl) (by kernel_rfl) (fun w2 c2 => (op_move (v := .bool false) rfl)) (hsub [0, 1, 2, 3, 4, 5, 6, 7] (by kernel_rfl) rfl _ c126) ?_
     refine wh_skip 3 75 rfl (by kernel_rfl) (by kernel_rfl) (hsub [0, 1, 2, 3, 4, 5, 6, 7] (by kernel_rfl) rfl _ c126) ?_
     refine wh_skip 4 76 rfl (by kernel_rfl) (by kernel_rfl) (hsub [0, 1, 2, 3, 4, 5, 6, 7] (by kernel_rfl) rfl _ c126) ?_
     refine wh_take 5 77 rfl (by kernel_rfl) (by kernel_rfl) (fun w2 c2 => (op_pick_f (v := .bool false) rfl rfl)) (hsub [0, 1, 2, 3, 4, 5, 6, 7] (by kernel_rfl) rfl _ c126) ?_
     refine wh_take 6 78 rfl (by kernel_rfl) (by kernel_rfl) (fun w2 c2 => (op_move (v := .bool false) rfl)) (hsub [0, 1, 2, 3, 4, 5, 6, 7] (by kernel_rfl) rfl _ c126) ?_
     refine wh_skip 7 79 rfl (by kernel_rfl) (by kernel_rfl) (hsub [0, 1, 2, 3, 4, 5, 6, 7] (by kernel_rfl) rfl _ c126) ?_
     refine wh_skip 8 80 rfl (by kernel_rfl) (by kernel_rfl) (hsub [0, 1, 2, 3, 4, 5, 6, 7] (by kernel_rfl) rfl _ c126) ?_
     refine wh_skip 9 81 rfl (by kernel_rfl) (by kernel_rfl) (hsub [0, 1, 2, 3, 4, 5, 6, 7] (by kernel_rfl) rfl _ c126) ?_
     refine wh_skip 10 82 rfl (by kernel_rfl) (by kernel_rfl) (hsub [0, 1, 2, 3, 4, 5, 6, 7] (by kernel_rfl) rfl _ c126) ?_
     refine wh_skip 11 83 rfl (by kernel_rfl) (by kernel_rfl) (hsub [0, 1, 2, 3, 4, 5, 6, 7] (by kernel_rfl) rfl _ c126) ?_
     refine wh_skip 12 84 rfl (by kernel_rfl) (by kernel_rfl) (hsub [0, 1, 2, 3, 4, 5, 6, 7] (by kernel_rfl) rfl _ c126) ?_
     refine wh_skip 13 85 rfl (by kernel_rfl) (by kernel_rfl) (hsub [0, 1, 2, 3, 4, 5, 6, 7] (by kernel_rfl) rfl _ c126) ?_
     refine wh_skip 14 86 rfl (by kernel_rfl) (by kernel_rfl) (hsub [0, 1, 2, 3, 4, 5, 6, 7] (by kernel_rfl) rfl _ c126) ?_
     refine wh_skip 15 87 rfl (by kernel_rfl) (by kernel_rfl) (hsub [0, 1, 2, 3, 4, 5, 6, 7] (by kernel_rfl) rfl _ c126) ?_
     refine wh_skip 16 88 rfl (by kernel_rfl) (by kernel_rfl) (hsub [0, 1, 2, 3, 4, 5, 6, 7] (by kernel_rfl) rfl _ c126) ?_
     refine wh_take 17 89 rfl (by kernel_rfl) (by kernel_rfl) (fun w2 c2 => (op_pick_f (v := .bool false) rfl rfl)) (hsub [0, 1, 2, 3, 4, 5, 6, 7] (by kernel_rfl) rfl _ c126) ?_
     refine wh_take 18 90 rfl (by kernel_rfl) (by kernel_rfl) (fun w2 c2 => (op_move (v := .bool false) rfl)) (hsub [0, 1, 2, 3, 4, 5, 6, 7] (by kernel_rfl) rfl _ c126) ?_
     refine wh_skip 19 91 rfl (by kernel_rfl) (by kernel_rfl) (hsub [0, 1, 2, 3, 4, 5, 6, 7] (by kernel_rfl) rfl _ c126) ?_
     refine wh_skip 20 92 rfl (by kernel_rfl) (by kernel_rfl) (hsub [0, 1, 2, 3, 4, 5, 6, 7] (by kernel_rfl) rfl _ c126) ?_
     refine wh_skip 21 93 rfl (by kernel_rfl) (by kernel_rfl) (hsub [0, 1, 2, 3, 4, 5, 6, 7] (by kernel_rfl) rfl _ c126) ?_
     refine wh_skip 22 94 rfl (by kernel_rfl) (by kernel_rfl) (hsub [0, 1, 2, 3, 4, 5, 6, 7] (by kernel_rfl) rfl _ c126) ?_
     refine wh_skip 23 95 rfl (by kernel_rfl) (by kernel_rfl) (hsub [0, 1, 2, 3, 4, 5, 6, 7] (by kernel_rfl) rfl _ c126) ?_
     refine wh_skip 24 96 rfl (by kernel_rfl) (by kernel_rfl) (hsub [0, 1, 2, 3, 4, 5, 6, 7] (by kernel_rfl) rfl _ c126) ?_
     refine wh_skip 25 97 rfl (by kernel_rfl) (by kernel_rfl) (hsub [0, 1, 2, 3, 4, 5, 6, 7] (by kernel_rfl) rfl _ c126) ?_
     refine wh_skip 26 98 rfl (by kernel_rfl) (by kernel_rfl) (hsub [0, 1, 2, 3, 4, 5, 6, 7] (by kernel_rfl) rfl _ c126) ?_
     refine wh_take 27 99 rfl (by kernel_rfl) (by kernel_rfl) (fun w2 c2 => (op_pick_f (v := .bool false) rfl rfl)) (hsub [0, 1, 2, 3, 4, 5, 6, 7] (by kernel_rfl) rfl _ c126) ?_
     refine wh_take 28 100 rfl (by kernel_rfl) (by kernel_rfl) (fun w2 c2 => (op_move (v := .bool false) rfl)) (hsub [0, 1, 2, 3, 4, 5, 6, 7] (by kernel_rfl) rfl _ c126) ?_
     refine wh_skip 29 101 rfl (by kernel_rfl) (by kernel_rfl) (hsub [0, 1, 2, 3, 4, 5, 6, 7] (by kernel_rfl) rfl _ c126) ?_
     refine wh_take 30 102 rfl (by kernel_rfl) (by kernel_rfl) (fun w2 c2 => (op_pick_f (v := .bool false) rfl rfl)) (hsub [0, 1, 2, 3, 4, 5, 6, 7] (by kernel_rfl) rfl _ c126) ?_
     refine wh_take 31 6 rfl (by kernel_rfl) (by kernel_rfl) (fun w2 c2 => (op_assign (v := .bool false) rfl)) (hsub [0, 1, 2, 3, 4, 5, 6, 7] (by kernel_rfl) rfl _ c126) ?_
     exact wh_done () (by kernel_rfl) (sub_cons (by kernel_rfl) (congrArg Value.bool (by rw [decide_eq_false h127] <;> rfl)) sub_nil) (hsub [] (by kernel_rfl) rfl _ c126)
   intro u123
   refine xm_next ?_
   refine cm_ret ?_
   exact xm_retT rfl (by kernel_rfl) (show _ = Value.bool _ from rfl) fun w1 c1 => ⟨(), rfl, hsub [] (by kernel_rfl) rfl w1 c1⟩
end Go.Proofs.YtpbgfdmkebnjgaaGreatDoor
