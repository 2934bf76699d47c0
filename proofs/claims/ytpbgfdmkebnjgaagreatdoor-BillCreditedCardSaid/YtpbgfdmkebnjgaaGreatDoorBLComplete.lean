/- Models of functions, and that the code follows them. Written by deco.py. -/
import Derived.Test.YtpbgfdmkebnjgaaGreatDoorBGr
namespace Go.Proofs.YtpbgfdmkebnjgaaGreatDoor
open Go.RowKit
set_option linter.unusedSectionVars false
variable [JF]

/-- recyclinglaw54.BillComplete -/
def m_recyclinglaw54_BillComplete (N : Nat) (p0 : ApiAccount) (p1 : Recyclinglaw54Ask) : Option (Bool) :=
 Option.bind (m_recyclinglaw54_great N p0) fun r7 => (if r7 = true then
  Option.bind (m_recyclinglaw54_awake N) fun r10 => some (r10)
 else
  Option.bind (m_bill_Make N p0 p1.ID p1.Household p1.When) fun r12 => (if r12.2 ≠ 0 then
   callIf (((decide ((List.length r12.1.Items : Int) = 0)) && (decide (r12.1.Total = 0))) = true) (m_recyclinglaw54_awake N) fun r16 => some ((((decide ((List.length r12.1.Items : Int) = 0)) && (decide (r12.1.Total = 0))) && r16))
  else
   Option.bind (m_tariff_Base N p0.Tariffs p1.When) fun r20 => ck (I64 (p1.When.From * (86400 : Int))) (
    ck (I64 (p1.When.To * (86400 : Int))) (
     Option.bind (m_emptying_Of N p0.Emptyings p0.Assigns p1.Household (ApiWindow.mk (p1.When.From * (86400 : Int)) (p1.When.To * (86400 : Int))) p0.Gap) fun r24 => (if (((((decide (r20.2 ≠ 0)) || (decide (r24.2 ≠ 0))) || (decide (r12.1.ID ≠ p1.ID))) || (decide (r12.1.Household ≠ p1.Household))) || (decide (r12.1.When ≠ p1.When))) = true then
      some (false)
     else
      (andThen
       (loopM (fun (s338 : (List ApiItem) × Int) =>
        (if s338.2 < (List.length r24.1 : Int) then
         ck ((0 : Int) ≤ s338.2 ∧ s338.2 < (List.length r24.1 : Int)) (
          ck ((!(decide ((ix r24.1 s338.2) < 0))) = true → (0 : Int) ≤ s338.2 ∧ s338.2 < (List.length r24.1 : Int)) (
           (if ((decide ((ix r24.1 s338.2) < 0)) || (decide ((List.length p0.Emptyings : Int) ≤ (ix r24.1 s338.2)))) = true then
            some (.done (.done (false)))
           else
            ck ((0 : Int) ≤ s338.2 ∧ s338.2 < (List.length r24.1 : Int)) (
             ck ((0 : Int) ≤ (ix r24.1 s338.2) ∧ (ix r24.1 s338.2) < (List.length p0.Emptyings : Int)) (
              ck (I64 ((ix p0.Emptyings (ix r24.1 s338.2)).At)) (
               Option.bind (m_tariff_At N p0.Tariffs (Int.tdiv ((ix p0.Emptyings (ix r24.1 s338.2)).At) 86400)) fun r367 => (if (((decide (r367.2 ≠ 0)) || (decide (r367.1 < 0))) || (decide ((List.length p0.Tariffs : Int) ≤ r367.1))) = true then
                some (.done (.done (false)))
               else
                ck ((0 : Int) ≤ r367.1 ∧ r367.1 < (List.length p0.Tariffs : Int)) (
                 Option.bind (m_tariff_Items N (ix p0.Tariffs r367.1) (ix p0.Emptyings (ix r24.1 s338.2))) fun r373 => (if r373.2 ≠ 0 then
                  some (.done (.done (false)))
                 else
                  ck ((List.length ([] : List ApiItem) + List.length s338.1) * 40 ≤ 140737488355328) (
                   ck ((List.length (([] : List ApiItem) ++ s338.1) + List.length r373.1) * 40 ≤ 140737488355328) (
                    ck (I64 (s338.2 + (1 : Int))) (
                     some (.next (((([] : List ApiItem) ++ s338.1) ++ r373.1), (s338.2 + (1 : Int))))))))))))))))
        else
         some (.done (.next s338.1)))) N (r20.1, (0 : Int)))
      fun (s214 : (List ApiItem)) =>
       (andThen
        (loopM (fun (s431 : Int × Int) =>
         (if s431.2 < (List.length s214 : Int) then
          ck ((0 : Int) ≤ s431.2 ∧ s431.2 < (List.length s214 : Int)) (
           ck (I64 (s431.1 + ((ix s214 s431.2).Amount))) (
            ck (I64 (s431.2 + (1 : Int))) (
             some (.next ((s431.1 + ((ix s214 s431.2).Amount)), (s431.2 + (1 : Int)))))))
         else
          some (.done (.next s431.1)))) N ((0 : Int), (0 : Int)))
       fun (s417 : Int) =>
        Option.bind (m_recyclingref53_Same N r12.1.Items s214) fun r437 => callIf ((r437 && (decide (r12.1.Total = s417))) = true) (m_bill_Right N p0 r12.1) fun r439 => callIf (((r437 && (decide (r12.1.Total = s417))) && (decide (r439 = 0))) = true) (m_recyclinglaw54_awake N) fun r441 => some ((((r437 && (decide (r12.1.Total = s417))) && (decide (r439 = 0))) && r441)))))))))
set_option maxHeartbeats 2000000 in
set_option maxRecDepth 20000 in
theorem m_recyclinglaw54_BillComplete_ok (N : Nat) (w0 : World) (p0 : ApiAccount) (p1 : Recyclinglaw54Ask) (A_p01 : Option Addr) (n_p01 c_p01 : Nat) (A_p02 : Option Addr) (n_p02 c_p02 : Nat) (A_p03 : Option Addr) (n_p03 c_p03 : Nat) (A_p04 : Option Addr) (n_p04 c_p04 : Nat) (A_p05 : Option Addr) (n_p05 c_p05 : Nat) (hr_p01 : RdE w0 2 encApiHousehold A_p01 p0.Households) (hz_p01 : SW A_p01 n_p01 c_p01 (List.length p0.Households)) (hr_p02 : RdE w0 5 encApiContainer A_p02 p0.Containers) (hz_p02 : SW A_p02 n_p02 c_p02 (List.length p0.Containers)) (hr_p03 : RdE w0 4 encApiAssign A_p03 p0.Assigns) (hz_p03 : SW A_p03 n_p03 c_p03 (List.length p0.Assigns)) (hr_p04 : RdE w0 7 encApiEmptying A_p04 p0.Emptyings) (hz_p04 : SW A_p04 n_p04 c_p04 (List.length p0.Emptyings)) (hr_p05 : RdE w0 5 encApiTariff A_p05 p0.Tariffs) (hz_p05 : SW A_p05 n_p05 c_p05 (List.length p0.Tariffs)) (ht : Tab w0) (r : Bool) (hr : m_recyclinglaw54_BillComplete N p0 p1 = some r) :
  Ret Tryz.prog 8 [.agg #[.slice A_p01 n_p01 c_p01, .slice A_p02 n_p02 c_p02, .slice A_p03 n_p03 c_p03, .slice A_p04 n_p04 c_p04, .slice A_p05 n_p05 c_p05, .int .i64 p0.Gap], .agg #[.int .i64 p1.ID, .int .i64 p1.Household, .int .i64 p1.When.From, .int .i64 p1.When.To]] w0 (fun (r : Bool) (_u : Unit) => .bool r) (fun (_r : Bool) (_u : Unit) => []) r := by
 refine calls_v (n := 203) r hr Tryz.func8 ?_
 unfold m_recyclinglaw54_BillComplete
 refine sr ?_
 refine lm_box 2 [.slice _ _ _, .slice _ _ _, .slice _ _ _, .slice _ _ _, .slice _ _ _, .int .i64 _] (by kernel_rfl) rfl ?_
 intro b5
 refine lm_box 3 [.int .i64 _, .int .i64 _, .int .i64 _, .int .i64 _] (by kernel_rfl) rfl ?_
 intro b6
 refine la 1 ((4, .bool false) :: _) rfl ?_
 refine nn ?_
 refine cm_seq ?_
 refine sr ?_
 refine v_ 19 (fun _ c1 => oR [.slice _ _ _, .slice _ _ _, .slice _ _ _, .slice _ _ _, .slice _ _ _, .int .i64 _] (c1.cells 1 rfl rfl)) ?_
 refine lm_call 20 (V := (fun (r : Bool) (_u : Unit) => .bool r)) (HR := (fun (_r : Bool) (_u : Unit) => [])) (by kernel_rfl) (fun w1 => op_call (by kernel_rfl)) (fun r1 hr1 w1 c1 => m_recyclinglaw54_great_ok N w1 p0 A_p01 n_p01 c_p01 A_p02 n_p02 c_p02 A_p03 n_p03 c_p03 A_p04 n_p04 c_p04 A_p05 n_p05 c_p05 (hr_p01.old c1) hz_p01 (hr_p02.old c1) hz_p02 (hr_p03.old c1) hz_p03 (hr_p04.old c1) hz_p04 (hr_p05.old c1) hz_p05 r1 hr1) ?_
 intro r7 u8
 refine nn ?_
 refine cm_condB (by kernel_rfl) rfl (fun h9 => ?_) (fun h9 => ?_)
 ·refine sr ?_
  refine lm_call 21 (V := (fun (r : Bool) (_u : Unit) => .bool r)) (HR := (fun (_r : Bool) (_u : Unit) => [])) (by kernel_rfl) (fun w1 => op_call (by kernel_rfl)) (fun r1 hr1 w1 c1 => m_recyclinglaw54_awake_ok N w1  (hs_tab ht c1) r1 hr1) ?_
  intro r10 u11
  refine la 1 ((4, .bool _) :: _) rfl ?_
  refine nn ?_
  refine cm_ret ?_
  refine xm_thenR ?_
  exact xm_retT rfl (by kernel_rfl) (show _ = Value.bool _ from rfl) fun w1 c1 => ⟨(), rfl, hsub [] (by kernel_rfl) rfl w1 c1⟩
 ·refine sk ?_
  refine sr ?_
  refine v_ 23 (fun _ c1 => oR [.slice _ _ _, .slice _ _ _, .slice _ _ _, .slice _ _ _, .slice _ _ _, .int .i64 _] (c1.cells 1 rfl rfl)) ?_
  refine v_ 24 (fun _ _ => oF 0 0 rfl) ?_
  refine v_ 25 (fun _ c1 => oL (c1.cell 0 (u := .int .i64 _) rfl rfl)) ?_
  refine v_ 26 (fun _ _ => oF 1 1 rfl) ?_
  refine v_ 27 (fun _ c1 => oL (c1.cell 0 (u := .int .i64 _) rfl rfl)) ?_
  refine v_ 28 (fun _ _ => oF 2 2 rfl) ?_
  refine v_ 29 (fun _ c1 => oR [.int .i64 _, .int .i64 _] (c1.cells 0 rfl rfl)) ?_
  refine lm_call 30 (V := (fun (r : ApiBill × Int) (u : (Option Addr) × Nat × Nat) => .tuple #[.agg #[.int .i64 r.1.ID, .int .i64 r.1.Household, .int .i64 r.1.When.From, .int .i64 r.1.When.To, .slice u.1 u.2.1 u.2.2, .int .i64 r.1.Total], .int .i64 r.2])) (HR := (fun (r : ApiBill × Int) (u : (Option Addr) × Nat × Nat) => [ownE 66 5 encApiItem u.1 u.2.1 u.2.2 r.1.Items])) (by kernel_rfl) (fun w1 => op_call (by kernel_rfl)) (fun r1 hr1 w1 c1 => m_bill_Make_ok N w1 p0 p1.ID p1.Household p1.When A_p01 n_p01 c_p01 A_p02 n_p02 c_p02 A_p03 n_p03 c_p03 A_p04 n_p04 c_p04 A_p05 n_p05 c_p05 (hr_p01.old c1) hz_p01 (hr_p02.old c1) hz_p02 (hr_p03.old c1) hz_p03 (hr_p04.old c1) hz_p04 (hr_p05.old c1) hz_p05 r1 hr1) ?_
  intro r12 u13
  refine la 3 ((32, .int .i64 _) :: (31, .agg _) :: (22, .tuple _) :: _) rfl ?_
  refine lm_alloc 5 [.int .i64 0, .int .i64 0, .int .i64 0, .int .i64 0, .slice none 0 0, .int .i64 0] (v := .agg #[.int .i64 0, .int .i64 0, .int .i64 0, .int .i64 0, .slice none 0 0, .int .i64 0]) (by kernel_rfl) (by kernel_rfl) rfl ?_
  intro b14
  refine lm_storeA 0 [.int .i64 _, .int .i64 _, .int .i64 _, .int .i64 _, .slice _ _ _, .int .i64 _] [_, _, _, _, _, _] (H' := [blkE _ _ [_, _, _, _, _, _], _, _, _]) (by kernel_rfl) rfl rfl (by kernel_rfl) rfl rfl (by kernel_rfl) rfl rfl ?_
  refine la 1 ((6, .int .i64 _) :: _) rfl ?_
  refine nn ?_
  refine cm_seq ?_
  refine sr ?_
  refine la 2 ((34, .bool _) :: (33, .int .i64 _) :: _) rfl ?_
  refine nn ?_
  refine cm_cond (by kernel_rfl) rfl (fun h15 => ?_) (fun h15 => ?_)
  ·refine cm_seq ?_
   refine cm_callIf fun r16 h17 => ?_
   refine cm_cutE [(4, .bool (((decide ((List.length r12.1.Items : Int) = 0)) && (decide (r12.1.Total = 0))) && r16))] ?_ ?_
   ·refine q_ 35 (fun _ _ => oF 4 4 rfl) ?_
    refine q_ 36 (fun _ c1 => oL (c1.cell 0 (u := .slice _ _ _) rfl rfl)) ?_
    refine q_ 37 (fun _ c1 => op_lenN rfl (by kernel_rfl) (c1.ownZ 1 rfl).2.2) ?_
    refine qd 38 (fun _ _ => op_eql rfl rfl) (fun h18 => ?_) (fun h18 => ?_)
    ·refine qa 1 ((39, .bool true) :: _) rfl ?_
     refine q_ 40 (fun _ _ => oF 5 5 rfl) ?_
     refine q_ 41 (fun _ c1 => oL (c1.cell 0 (u := .int .i64 _) rfl rfl)) ?_
     refine qd 42 (fun _ _ => op_eql rfl rfl) (fun h19 => ?_) (fun h19 => ?_)
     ·refine qa 2 ((44, .bool true) :: (43, .bool true) :: _) rfl ?_
      refine wq_call 45 (by kernel_rfl) (fun w1 c1 => op_call (by kernel_rfl)) (fun w1 c1 => (m_recyclinglaw54_awake_ok N w1  (hs_tab ht c1) r16 (h17 (by rw [decide_eq_true h18, decide_eq_true h19] <;> rfl))).mono (fun _ _ ⟨_, hx, hu⟩ => ⟨hx, c1.call hu⟩)) ?_
      refine qa 2 ((4, .bool _) :: (46, .bool _) :: _) rfl ?_
      exact leaf_q (sub_out 13 _ rfl (by kernel_rfl) ⟨(congrArg Value.bool (by rw [decide_eq_true h18, decide_eq_true h19] <;> rfl)), trivial⟩)
     ·refine qa 5 ((4, .bool false) :: (46, .bool false) :: (45, undef) :: (44, .bool false) :: (43, .bool false) :: _) rfl ?_
      exact leaf_q (sub_out 13 _ rfl (by kernel_rfl) ⟨(congrArg Value.bool (by rw [decide_eq_true h18, decide_eq_false h19] <;> rfl)), trivial⟩)
    ·refine qa 9 ((4, .bool false) :: (46, .bool false) :: (45, undef) :: (44, .bool false) :: (43, .bool false) :: (42, undef) :: (41, undef) :: (40, undef) :: (39, .bool false) :: _) rfl ?_
     exact leaf_q (sub_out 13 _ rfl (by kernel_rfl) ⟨(congrArg Value.bool (by rw [decide_eq_false h18] <;> rfl)), trivial⟩)
   refine xm_next ?_
   refine cm_ret ?_
   refine xm_thenR ?_
   exact xm_retT rfl (by kernel_rfl) (show _ = Value.bool _ from rfl) fun w1 c1 => ⟨(), rfl, hsub [] (by kernel_rfl) rfl w1 c1⟩
  ·refine sk ?_
   refine sr ?_
   refine v_ 48 (fun _ _ => oF 4 4 rfl) ?_
   refine v_ 49 (fun _ c1 => oL (c1.cell 3 (u := .slice _ _ _) rfl rfl)) ?_
   refine v_ 50 (fun _ _ => oF 2 2 rfl) ?_
   refine v_ 51 (fun _ c1 => oR [.int .i64 _, .int .i64 _] (c1.cells 2 rfl rfl)) ?_
   refine lm_call 52 (V := (fun (r : (List ApiItem) × Int) (u : (Option Addr) × Nat × Nat) => .tuple #[.slice u.1 u.2.1 u.2.2, .int .i64 r.2])) (HR := (fun (r : (List ApiItem) × Int) (u : (Option Addr) × Nat × Nat) => [ownE 66 5 encApiItem u.1 u.2.1 u.2.2 r.1])) (by kernel_rfl) (fun w1 => op_call (by kernel_rfl)) (fun r1 hr1 w1 c1 => m_tariff_Base_ok N w1 p0.Tariffs p1.When A_p05 n_p05 c_p05 (hr_p05.old c1) hz_p05 r1 hr1) ?_
   intro r20 u21
   refine la 5 ((8, .int .i64 _) :: (7, .slice _ _ _) :: (54, .int .i64 _) :: (53, .slice _ _ _) :: (47, .tuple _) :: _) rfl ?_
   refine nn ?_
   refine sr ?_
   refine v_ 56 (fun _ _ => oF 3 3 rfl) ?_
   refine v_ 57 (fun _ c1 => oL (c1.cell 4 (u := .slice _ _ _) rfl rfl)) ?_
   refine v_ 58 (fun _ _ => oF 2 2 rfl) ?_
   refine v_ 59 (fun _ c1 => oL (c1.cell 4 (u := .slice _ _ _) rfl rfl)) ?_
   refine v_ 60 (fun _ _ => oF 1 1 rfl) ?_
   refine v_ 61 (fun _ c1 => oL (c1.cell 3 (u := .int .i64 _) rfl rfl)) ?_
   refine v_ 62 (fun _ _ => oF 2 2 rfl) ?_
   refine v_ 63 (fun _ _ => oF 0 2 rfl) ?_
   refine v_ 64 (fun _ c1 => oL (c1.cell 3 (u := .int .i64 _) rfl rfl)) ?_
   refine lm_ck (fun h22 => ?_)
   refine v_ 65 (fun _ _ => op_mul rfl rfl h22) ?_
   refine v_ 66 (fun _ _ => oF 2 2 rfl) ?_
   refine v_ 67 (fun _ _ => oF 1 3 rfl) ?_
   refine v_ 68 (fun _ c1 => oL (c1.cell 3 (u := .int .i64 _) rfl rfl)) ?_
   refine lm_ck (fun h23 => ?_)
   refine v_ 69 (fun _ _ => op_mul rfl rfl h23) ?_
   refine v_ 70 (fun _ _ => op_build (z := [.int .i64 0, .int .i64 0]) (tab := [(0, 1), (1, 1)]) (cs := [.int .i64 _, .int .i64 _]) [(0, [.int .i64 _]), (1, [.int .i64 _])] (by kernel_rfl) (by kernel_rfl) (fillOk_cons rfl rfl rfl (fillOk_cons rfl rfl rfl fillOk_nil)) rfl) ?_
   refine v_ 71 (fun _ _ => oF 5 5 rfl) ?_
   refine v_ 72 (fun _ c1 => oL (c1.cell 4 (u := .int .i64 _) rfl rfl)) ?_
   refine lm_call 73 (V := (fun (r : (List Int) × Int) (u : (Option Addr) × Nat × Nat) => .tuple #[.slice u.1 u.2.1 u.2.2, .int .i64 r.2])) (HR := (fun (r : (List Int) × Int) (u : (Option Addr) × Nat × Nat) => [ownE 3 1 encI u.1 u.2.1 u.2.2 r.1])) (by kernel_rfl) (fun w1 => op_call (by kernel_rfl)) (fun r1 hr1 w1 c1 => m_emptying_Of_ok N w1 p0.Emptyings p0.Assigns p1.Household (ApiWindow.mk (p1.When.From * (86400 : Int)) (p1.When.To * (86400 : Int))) p0.Gap A_p04 n_p04 c_p04 A_p03 n_p03 c_p03 (hr_p04.old c1) hz_p04 (hr_p03.old c1) hz_p03 r1 hr1) ?_
   intro r24 u25
   refine la 5 ((10, .int .i64 _) :: (9, .slice _ _ _) :: (75, .int .i64 _) :: (74, .slice _ _ _) :: (55, .tuple _) :: _) rfl ?_
   refine nn ?_
   refine cm_seq ?_
   refine cm_seq ?_
   refine cm_cutE [(102, .bool (((((decide (r20.2 ≠ 0)) || (decide (r24.2 ≠ 0))) || (decide (r12.1.ID ≠ p1.ID))) || (decide (r12.1.Household ≠ p1.Household))) || (decide (r12.1.When ≠ p1.When))))] ?_ ?_
   ·refine qa 1 ((76, .int .i64 _) :: _) rfl ?_
    refine qd 77 (fun _ _ => op_neq rfl rfl) (fun h26 => ?_) (fun h26 => ?_)
    ·refine qa 25 ((102, .bool true) :: (101, undef) :: (100, undef) :: (99, undef) :: (98, undef) :: (97, undef) :: (96, .bool true) :: (95, .bool true) :: (94, undef) :: (93, undef) :: (92, undef) :: (91, undef) :: (90, undef) :: (89, .bool true) :: (88, .bool true) :: (87, undef) :: (86, undef) :: (85, undef) :: (84, undef) :: (83, undef) :: (82, .bool true) :: (81, .bool true) :: (80, undef) :: (79, undef) :: (78, .bool true) :: _) rfl ?_
     exact leaf_q (sub_out 27 _ rfl (by kernel_rfl) ⟨(congrArg Value.bool (by rw [decide_eq_true h26] <;> rfl)), trivial⟩)
    ·refine qa 2 ((79, .int .i64 _) :: (78, .bool false) :: _) rfl ?_
     refine qd 80 (fun _ _ => op_neq rfl rfl) (fun h27 => ?_) (fun h27 => ?_)
     ·refine qa 22 ((102, .bool true) :: (101, undef) :: (100, undef) :: (99, undef) :: (98, undef) :: (97, undef) :: (96, .bool true) :: (95, .bool true) :: (94, undef) :: (93, undef) :: (92, undef) :: (91, undef) :: (90, undef) :: (89, .bool true) :: (88, .bool true) :: (87, undef) :: (86, undef) :: (85, undef) :: (84, undef) :: (83, undef) :: (82, .bool true) :: (81, .bool true) :: _) rfl ?_
      exact leaf_q (sub_out 27 _ rfl (by kernel_rfl) ⟨(congrArg Value.bool (by rw [decide_eq_false h26, decide_eq_true h27] <;> rfl)), trivial⟩)
     ·refine qa 2 ((82, .bool false) :: (81, .bool false) :: _) rfl ?_
      refine q_ 83 (fun _ _ => oF 0 0 rfl) ?_
      refine q_ 84 (fun _ c1 => oL (c1.cell 2 (u := .int .i64 _) rfl rfl)) ?_
      refine q_ 85 (fun _ _ => oF 0 0 rfl) ?_
      refine q_ 86 (fun _ c1 => oL (c1.cell 4 (u := .int .i64 _) rfl rfl)) ?_
      refine qd 87 (fun _ _ => op_neq rfl rfl) (fun h28 => ?_) (fun h28 => ?_)
      ·refine qa 15 ((102, .bool true) :: (101, undef) :: (100, undef) :: (99, undef) :: (98, undef) :: (97, undef) :: (96, .bool true) :: (95, .bool true) :: (94, undef) :: (93, undef) :: (92, undef) :: (91, undef) :: (90, undef) :: (89, .bool true) :: (88, .bool true) :: _) rfl ?_
       exact leaf_q (sub_out 27 _ rfl (by kernel_rfl) ⟨(congrArg Value.bool (by rw [decide_eq_false h26, decide_eq_false h27, decide_eq_true h28] <;> rfl)), trivial⟩)
      ·refine qa 2 ((89, .bool false) :: (88, .bool false) :: _) rfl ?_
       refine q_ 90 (fun _ _ => oF 1 1 rfl) ?_
       refine q_ 91 (fun _ c1 => oL (c1.cell 2 (u := .int .i64 _) rfl rfl)) ?_
       refine q_ 92 (fun _ _ => oF 1 1 rfl) ?_
       refine q_ 93 (fun _ c1 => oL (c1.cell 4 (u := .int .i64 _) rfl rfl)) ?_
       refine qd 94 (fun _ _ => op_neq rfl rfl) (fun h29 => ?_) (fun h29 => ?_)
       ·refine qa 8 ((102, .bool true) :: (101, undef) :: (100, undef) :: (99, undef) :: (98, undef) :: (97, undef) :: (96, .bool true) :: (95, .bool true) :: _) rfl ?_
        exact leaf_q (sub_out 27 _ rfl (by kernel_rfl) ⟨(congrArg Value.bool (by rw [decide_eq_false h26, decide_eq_false h27, decide_eq_false h28, decide_eq_true h29] <;> rfl)), trivial⟩)
       ·refine qa 2 ((96, .bool false) :: (95, .bool false) :: _) rfl ?_
        refine q_ 97 (fun _ _ => oF 2 2 rfl) ?_
        refine q_ 98 (fun _ c1 => oR [.int .i64 _, .int .i64 _] (c1.cells 2 rfl rfl)) ?_
        refine q_ 99 (fun _ _ => oF 2 2 rfl) ?_
        refine q_ 100 (fun _ c1 => oR [.int .i64 _, .int .i64 _] (c1.cells 4 rfl rfl)) ?_
        refine q_ 101 (fun _ _ => op_neApiWindow r12.1.When p1.When rfl rfl) ?_
        refine qa 1 ((102, .bool _) :: _) rfl ?_
        exact leaf_q (sub_out 27 _ rfl (by kernel_rfl) ⟨(congrArg Value.bool (by rw [decide_eq_false h26, decide_eq_false h27, decide_eq_false h28, decide_eq_false h29] <;> rfl)), trivial⟩)
   refine xm_next ?_
   refine cm_condB (by kernel_rfl) rfl (fun h30 => ?_) (fun h30 => ?_)
   ·refine sr ?_
    refine la 1 ((4, .bool false) :: _) rfl ?_
    refine nn ?_
    refine cm_ret ?_
    refine xm_thenR ?_
    exact xm_retT rfl (by kernel_rfl) (show _ = Value.bool false from rfl) fun w1 c1 => ⟨(), rfl, hsub [] (by kernel_rfl) rfl w1 c1⟩
   ·refine sk ?_
    refine cm_join (σ := (List ApiItem)) (ξ := (Option Addr) × Nat × Nat) (fun s214 u215 => [(2, .pointer (some ⟨b5, 0, none⟩)), (5, .pointer (some ⟨b14, 0, none⟩)), (7, .slice u215.1 u215.2.1 u215.2.2)]) (fun s214 u215 => [blkE b5 28 [.slice A_p01 n_p01 c_p01, .slice A_p02 n_p02 c_p02, .slice A_p03 n_p03 c_p03, .slice A_p04 n_p04 c_p04, .slice A_p05 n_p05 c_p05, .int .i64 p0.Gap], blkE b14 39 [.int .i64 r12.1.ID, .int .i64 r12.1.Household, .int .i64 r12.1.When.From, .int .i64 r12.1.When.To, .slice u13.1 u13.2.1 u13.2.2, .int .i64 r12.1.Total], ownE 66 5 encApiItem u13.1 u13.2.1 u13.2.2 r12.1.Items, ownE 66 5 encApiItem u215.1 u215.2.1 u215.2.2 s214]) ?_ ?_
    ·refine sr ?_
     refine la 1 ((11, .int .i64 _) :: _) rfl ?_
     refine nn ?_
     refine cm_block ?_
     refine cm_loop (σ := (List ApiItem) × Int) (ξ := (Option Addr) × Nat × Nat) (fun s338 u339 => [(2, .pointer (some ⟨b5, 0, none⟩)), (5, .pointer (some ⟨b14, 0, none⟩)), (7, .slice u339.1 u339.2.1 u339.2.2), (9, .slice u25.1 u25.2.1 u25.2.2), (11, .int .i64 s338.2)]) (fun s338 u339 => [blkE b5 28 [.slice A_p01 n_p01 c_p01, .slice A_p02 n_p02 c_p02, .slice A_p03 n_p03 c_p03, .slice A_p04 n_p04 c_p04, .slice A_p05 n_p05 c_p05, .int .i64 p0.Gap], blkE b14 39 [.int .i64 r12.1.ID, .int .i64 r12.1.Household, .int .i64 r12.1.When.From, .int .i64 r12.1.When.To, .slice u13.1 u13.2.1 u13.2.2, .int .i64 r12.1.Total], ownE 66 5 encApiItem u13.1 u13.2.1 u13.2.2 r12.1.Items, ownE 66 5 encApiItem u339.1 u339.2.1 u339.2.2 s338.1, ownE 3 1 encI u25.1 u25.2.1 u25.2.2 r24.1]) (u21.1, u21.2.1, u21.2.2) ?_ ?_ ?_
     ·exact sq
     ·exact sh [5, 2, 3, 1, 0]
     intro s338 u339
     refine cm_seq ?_
     refine sr ?_
     refine la 2 ((104, .slice _ _ _) :: (103, .int .i64 _) :: _) rfl ?_
     refine v_ 105 (fun _ c1 => op_lenN rfl (by kernel_rfl) (c1.ownZ 4 rfl).2.2) ?_
     refine la 1 ((106, .bool _) :: _) rfl ?_
     refine nn ?_
     refine cm_cond (by kernel_rfl) rfl (fun h340 => ?_) (fun h340 => ?_)
     ·refine sk ?_
      refine cm_seq ?_
      refine cm_block ?_
      refine cm_seq ?_
      refine cm_seq ?_
      refine cm_ck (fun h341 => ?_)
      refine cm_ck (fun h342 => ?_)
      refine cm_drawn [(123, .bool ((decide ((ix r24.1 s338.2) < 0)) || (decide ((List.length p0.Emptyings : Int) ≤ (ix r24.1 s338.2)))))] (by kernel_rfl) (by kernel_rfl) ?_ ?_
      ·refine qa 2 ((110, .int .i64 _) :: (109, .slice _ _ _) :: _) rfl ?_
       refine q_ 111 (fun _ c1 => oI 1 rfl rfl ((c1.own 4 rfl encI_len).addr h341.1 h341.2) (c1.ownZ 4 rfl).2.2 h341) ?_
       refine q_ 112 (fun _ c1 => oL (v := .int .i64 (ix r24.1 s338.2)) ((c1.own 4 rfl encI_len).cell0 h341.1 h341.2 rfl)) ?_
       refine qd 113 (fun _ _ => op_lss rfl rfl) (fun h343 => ?_) (fun h343 => ?_)
       ·refine qa 10 ((123, .bool true) :: (122, undef) :: (121, undef) :: (120, undef) :: (119, undef) :: (118, undef) :: (117, undef) :: (116, undef) :: (115, undef) :: (114, .bool true) :: _) rfl ?_
        exact leaf_q (sub_out 15 _ rfl (by kernel_rfl) ⟨(congrArg Value.bool (by rw [decide_eq_true h343] <;> rfl)), trivial⟩)
       ·refine qa 3 ((116, .int .i64 _) :: (115, .slice _ _ _) :: (114, .bool false) :: _) rfl ?_
        refine q_ 117 (fun _ c1 => oI 1 rfl rfl ((c1.own 4 rfl encI_len).addr (h342 (by rw [decide_eq_false h343] <;> rfl)).1 (h342 (by rw [decide_eq_false h343] <;> rfl)).2) (c1.ownZ 4 rfl).2.2 (h342 (by rw [decide_eq_false h343] <;> rfl))) ?_
        refine q_ 118 (fun _ c1 => oL (v := .int .i64 (ix r24.1 s338.2)) ((c1.own 4 rfl encI_len).cell0 (h342 (by rw [decide_eq_false h343] <;> rfl)).1 (h342 (by rw [decide_eq_false h343] <;> rfl)).2 rfl)) ?_
        refine q_ 119 (fun _ _ => oF 3 3 rfl) ?_
        refine q_ 120 (fun _ c1 => oL (c1.cell 0 (u := .slice _ _ _) rfl rfl)) ?_
        refine q_ 121 (fun _ _ => op_lenN rfl (by kernel_rfl) hz_p04.2.2) ?_
        refine qa 2 ((123, .bool _) :: (122, .bool _) :: _) rfl ?_
        exact leaf_q (sub_out 15 _ rfl (by kernel_rfl) ⟨(congrArg Value.bool (by rw [decide_eq_false h343] <;> rfl)), trivial⟩)
      refine xm_next ?_
      refine cm_condB (by kernel_rfl) rfl (fun h344 => ?_) (fun h344 => ?_)
      ·refine sr ?_
       refine la 1 ((4, .bool false) :: _) rfl ?_
       refine nn ?_
       refine cm_ret ?_
       refine xm_thenR ?_
       refine xm_inR ?_
       refine xm_thenR ?_
       refine xm_lret ?_
       refine xm_inR ?_
       refine xm_lret ?_
       exact xm_retT rfl (by kernel_rfl) (show _ = Value.bool false from rfl) fun w1 c1 => ⟨(), rfl, hsub [] (by kernel_rfl) rfl w1 c1⟩
      ·refine sk ?_
       refine cm_seq ?_
       refine cm_ck (fun h345 => ?_)
       refine cm_ck (fun h346 => ?_)
       refine cm_held (ξ := Nat) (fun u357 => [(2, .pointer (some ⟨b5, 0, none⟩)), (5, .pointer (some ⟨b14, 0, none⟩)), (7, .slice u339.1 u339.2.1 u339.2.2), (9, .slice u25.1 u25.2.1 u25.2.2), (11, .int .i64 s338.2), (12, .pointer (some ⟨u357, 0, none⟩))]) (fun u357 => [blkE b5 28 [.slice A_p01 n_p01 c_p01, .slice A_p02 n_p02 c_p02, .slice A_p03 n_p03 c_p03, .slice A_p04 n_p04 c_p04, .slice A_p05 n_p05 c_p05, .int .i64 p0.Gap], blkE b14 39 [.int .i64 r12.1.ID, .int .i64 r12.1.Household, .int .i64 r12.1.When.From, .int .i64 r12.1.When.To, .slice u13.1 u13.2.1 u13.2.2, .int .i64 r12.1.Total], ownE 66 5 encApiItem u13.1 u13.2.1 u13.2.2 r12.1.Items, ownE 66 5 encApiItem u339.1 u339.2.1 u339.2.2 s338.1, ownE 3 1 encI u25.1 u25.2.1 u25.2.2 r24.1, blkE u357 59 [.int .i64 ((ix p0.Emptyings (ix r24.1 s338.2)).ID), .int .i64 ((ix p0.Emptyings (ix r24.1 s338.2)).Container), .int .i64 ((ix p0.Emptyings (ix r24.1 s338.2)).Vehicle), .int .i64 ((ix p0.Emptyings (ix r24.1 s338.2)).At), .int .i64 ((ix p0.Emptyings (ix r24.1 s338.2)).Mass.Lo), .int .i64 ((ix p0.Emptyings (ix r24.1 s338.2)).Mass.Hi), .bool ((ix p0.Emptyings (ix r24.1 s338.2)).Void)]]) [blkE b5 28 [.slice A_p01 n_p01 c_p01, .slice A_p02 n_p02 c_p02, .slice A_p03 n_p03 c_p03, .slice A_p04 n_p04 c_p04, .slice A_p05 n_p05 c_p05, .int .i64 p0.Gap], blkE b14 39 [.int .i64 r12.1.ID, .int .i64 r12.1.Household, .int .i64 r12.1.When.From, .int .i64 r12.1.When.To, .slice u13.1 u13.2.1 u13.2.2, .int .i64 r12.1.Total], ownE 66 5 encApiItem u13.1 u13.2.1 u13.2.2 r12.1.Items, ownE 66 5 encApiItem u339.1 u339.2.1 u339.2.2 s338.1, ownE 3 1 encI u25.1 u25.2.1 u25.2.2 r24.1] 10 (by kernel_rfl) (by rfl) (hsub [0, 1, 2, 3, 4] (by kernel_rfl) (by rfl)) ?_ ?_
       ·intro w359 c360
        refine wh_take 0 124 rfl (by kernel_rfl) (by kernel_rfl) (fun w2 c2 => (op_fieldL (m := 3) (k := 3) rfl (by kernel_rfl) rfl)) (hsub [0, 1, 2, 3, 4] (by kernel_rfl) rfl _ c360) ?_
        refine wh_take 1 125 rfl (by kernel_rfl) (by kernel_rfl) (fun w2 c2 => (op_load rfl (by kernel_rfl) (c2.cell 0 (u := .slice _ _ _) rfl rfl))) (hsub [0, 1, 2, 3, 4] (by kernel_rfl) rfl _ c360) ?_
        refine wh_take 2 126 rfl (by kernel_rfl) (by kernel_rfl) (fun w2 c2 => (op_move (v := .slice _ _ _) rfl)) (hsub [0, 1, 2, 3, 4] (by kernel_rfl) rfl _ c360) ?_
        refine wh_take 3 127 rfl (by kernel_rfl) (by kernel_rfl) (fun w2 c2 => (op_move (v := .int .i64 _) rfl)) (hsub [0, 1, 2, 3, 4] (by kernel_rfl) rfl _ c360) ?_
        refine wh_take 4 128 rfl (by kernel_rfl) (by kernel_rfl) (fun w2 c2 => (op_indexA 1 rfl rfl (by kernel_rfl) ((c2.own 4 rfl encI_len).addr h345.1 h345.2) (c2.ownZ 4 rfl).2.2 h345.1 h345.2)) (hsub [0, 1, 2, 3, 4] (by kernel_rfl) rfl _ c360) ?_
        refine wh_take 5 129 rfl (by kernel_rfl) (by kernel_rfl) (fun w2 c2 => (op_load (v := .int .i64 (ix r24.1 s338.2)) rfl (by kernel_rfl) ((c2.own 4 rfl encI_len).cell0 h345.1 h345.2 rfl))) (hsub [0, 1, 2, 3, 4] (by kernel_rfl) rfl _ c360) ?_
        refine wh_take 6 130 rfl (by kernel_rfl) (by kernel_rfl) (fun w2 c2 => (op_indexA 7 rfl rfl (by kernel_rfl) ((hr_p04.old c2).addr h346.1 h346.2) hz_p04.2.2 h346.1 h346.2)) (hsub [0, 1, 2, 3, 4] (by kernel_rfl) rfl _ c360) ?_
        refine wh_take 7 131 rfl (by kernel_rfl) (by kernel_rfl) (fun w2 c2 => (op_loadR [.int .i64 ((ix p0.Emptyings (ix r24.1 s338.2)).ID), .int .i64 ((ix p0.Emptyings (ix r24.1 s338.2)).Container), .int .i64 ((ix p0.Emptyings (ix r24.1 s338.2)).Vehicle), .int .i64 ((ix p0.Emptyings (ix r24.1 s338.2)).At), .int .i64 ((ix p0.Emptyings (ix r24.1 s338.2)).Mass.Lo), .int .i64 ((ix p0.Emptyings (ix r24.1 s338.2)).Mass.Hi), .bool ((ix p0.Emptyings (ix r24.1 s338.2)).Void)] rfl (by kernel_rfl) ((hr_p04.old c2).row h346.1 h346.2))) (hsub [0, 1, 2, 3, 4] (by kernel_rfl) rfl _ c360) ?_
        refine wh_ready [8] (by kernel_rfl) rfl ⟨?_, trivial⟩
        refine ws_alloc 12 [.int .i64 0, .int .i64 0, .int .i64 0, .int .i64 0, .int .i64 0, .int .i64 0, .bool false] (v := .agg #[.int .i64 0, .int .i64 0, .int .i64 0, .int .i64 0, .int .i64 0, .int .i64 0, .bool false]) rfl (by kernel_rfl) (by kernel_rfl) rfl c360 ?_
        intro b361 w362 c363
        refine ⟨(hsub [1, 2, 3, 4, 5] (by kernel_rfl) rfl _ c363), ?_⟩
        refine wh_ready [9] (by kernel_rfl) rfl ⟨?_, trivial⟩
        refine ws_storeA 0 [.int .i64 _, .int .i64 _, .int .i64 _, .int .i64 _, .int .i64 _, .int .i64 _, .bool _] [_, _, _, _, _, _, _] rfl (by kernel_rfl) rfl rfl (by kernel_rfl) rfl rfl (by kernel_rfl) rfl (H' := [blkE _ _ [_, _, _, _, _, _, _], _, _, _, _, _]) rfl c363 ?_
        intro w364 c365
        refine ⟨(hsub [1, 2, 3, 4, 5] (by kernel_rfl) rfl _ c365), ?_⟩
        exact wh_done b361 (by kernel_rfl) sq (hsub [1, 2, 3, 4, 5, 0] (by kernel_rfl) rfl _ c365)
       intro u357
       refine xm_next ?_
       refine sr ?_
       refine v_ 133 (fun _ _ => oF 4 4 rfl) ?_
       refine v_ 134 (fun _ c1 => oL (c1.cell 0 (u := .slice _ _ _) rfl rfl)) ?_
       refine v_ 135 (fun _ _ => oF 3 3 rfl) ?_
       refine v_ 136 (fun _ c1 => oL (c1.cell 5 (u := .int .i64 _) rfl rfl)) ?_
       refine lm_ck (fun h366 => ?_)
       refine v_ 137 (fun _ _ => op_quoK rfl rfl (by kernel_rfl) h366) ?_
       refine lm_call 138 (V := (fun (r : Int × Int) (_u : Unit) => .tuple #[.int .i64 r.1, .int .i64 r.2])) (HR := (fun (_r : Int × Int) (_u : Unit) => [])) (by kernel_rfl) (fun w1 => op_call (by kernel_rfl)) (fun r1 hr1 w1 c1 => m_tariff_At_ok N w1 p0.Tariffs (Int.tdiv ((ix p0.Emptyings (ix r24.1 s338.2)).At) 86400) A_p05 n_p05 c_p05 (hr_p05.old c1) hz_p05 r1 hr1) ?_
       intro r367 u368
       refine la 5 ((14, .int .i64 _) :: (13, .int .i64 _) :: (140, .int .i64 _) :: (139, .int .i64 _) :: (132, .tuple _) :: _) rfl ?_
       refine nn ?_
       refine cm_seq ?_
       refine cm_seq ?_
       refine cm_cutE [(153, .bool (((decide (r367.2 ≠ 0)) || (decide (r367.1 < 0))) || (decide ((List.length p0.Tariffs : Int) ≤ r367.1))))] ?_ ?_
       ·refine qa 1 ((141, .int .i64 _) :: _) rfl ?_
        refine qd 142 (fun _ _ => op_neq rfl rfl) (fun h369 => ?_) (fun h369 => ?_)
        ·refine qa 11 ((153, .bool true) :: (152, undef) :: (151, undef) :: (150, undef) :: (149, undef) :: (148, undef) :: (147, .bool true) :: (146, .bool true) :: (145, undef) :: (144, undef) :: (143, .bool true) :: _) rfl ?_
         exact leaf_q (sub_out 13 _ rfl (by kernel_rfl) ⟨(congrArg Value.bool (by rw [decide_eq_true h369] <;> rfl)), trivial⟩)
        ·refine qa 2 ((144, .int .i64 _) :: (143, .bool false) :: _) rfl ?_
         refine qd 145 (fun _ _ => op_lss rfl rfl) (fun h370 => ?_) (fun h370 => ?_)
         ·refine qa 8 ((153, .bool true) :: (152, undef) :: (151, undef) :: (150, undef) :: (149, undef) :: (148, undef) :: (147, .bool true) :: (146, .bool true) :: _) rfl ?_
          exact leaf_q (sub_out 13 _ rfl (by kernel_rfl) ⟨(congrArg Value.bool (by rw [decide_eq_false h369, decide_eq_true h370] <;> rfl)), trivial⟩)
         ·refine qa 3 ((148, .int .i64 _) :: (147, .bool false) :: (146, .bool false) :: _) rfl ?_
          refine q_ 149 (fun _ _ => oF 4 4 rfl) ?_
          refine q_ 150 (fun _ c1 => oL (c1.cell 0 (u := .slice _ _ _) rfl rfl)) ?_
          refine q_ 151 (fun _ _ => op_lenN rfl (by kernel_rfl) hz_p05.2.2) ?_
          refine qa 2 ((153, .bool _) :: (152, .bool _) :: _) rfl ?_
          exact leaf_q (sub_out 13 _ rfl (by kernel_rfl) ⟨(congrArg Value.bool (by rw [decide_eq_false h369, decide_eq_false h370] <;> rfl)), trivial⟩)
       refine xm_next ?_
       refine cm_condB (by kernel_rfl) rfl (fun h371 => ?_) (fun h371 => ?_)
       ·refine sr ?_
        refine la 1 ((4, .bool false) :: _) rfl ?_
        refine nn ?_
        refine cm_ret ?_
        refine xm_thenR ?_
        refine xm_inR ?_
        refine xm_thenR ?_
        refine xm_lret ?_
        refine xm_inR ?_
        refine xm_lret ?_
        exact xm_retT rfl (by kernel_rfl) (show _ = Value.bool false from rfl) fun w1 c1 => ⟨(), rfl, hsub [] (by kernel_rfl) rfl w1 c1⟩
       ·refine sk ?_
        refine cm_seq ?_
        refine cm_ck (fun h372 => ?_)
        refine cm_bind fun r373 h374 => ?_
        refine cm_held (ξ := (Option Addr) × Nat × Nat) (fun u378 => [(2, .pointer (some ⟨b5, 0, none⟩)), (5, .pointer (some ⟨b14, 0, none⟩)), (7, .slice u339.1 u339.2.1 u339.2.2), (9, .slice u25.1 u25.2.1 u25.2.2), (11, .int .i64 s338.2), (15, .slice u378.1 u378.2.1 u378.2.2), (16, .int .i64 r373.2)]) (fun u378 => [blkE b5 28 [.slice A_p01 n_p01 c_p01, .slice A_p02 n_p02 c_p02, .slice A_p03 n_p03 c_p03, .slice A_p04 n_p04 c_p04, .slice A_p05 n_p05 c_p05, .int .i64 p0.Gap], blkE b14 39 [.int .i64 r12.1.ID, .int .i64 r12.1.Household, .int .i64 r12.1.When.From, .int .i64 r12.1.When.To, .slice u13.1 u13.2.1 u13.2.2, .int .i64 r12.1.Total], ownE 66 5 encApiItem u13.1 u13.2.1 u13.2.2 r12.1.Items, ownE 66 5 encApiItem u339.1 u339.2.1 u339.2.2 s338.1, ownE 3 1 encI u25.1 u25.2.1 u25.2.2 r24.1, ownE 66 5 encApiItem u378.1 u378.2.1 u378.2.2 r373.1]) [blkE b5 28 [.slice A_p01 n_p01 c_p01, .slice A_p02 n_p02 c_p02, .slice A_p03 n_p03 c_p03, .slice A_p04 n_p04 c_p04, .slice A_p05 n_p05 c_p05, .int .i64 p0.Gap], blkE b14 39 [.int .i64 r12.1.ID, .int .i64 r12.1.Household, .int .i64 r12.1.When.From, .int .i64 r12.1.When.To, .slice u13.1 u13.2.1 u13.2.2, .int .i64 r12.1.Total], ownE 66 5 encApiItem u13.1 u13.2.1 u13.2.2 r12.1.Items, ownE 66 5 encApiItem u339.1 u339.2.1 u339.2.2 s338.1, ownE 3 1 encI u25.1 u25.2.1 u25.2.2 r24.1, blkE u357 59 [.int .i64 ((ix p0.Emptyings (ix r24.1 s338.2)).ID), .int .i64 ((ix p0.Emptyings (ix r24.1 s338.2)).Container), .int .i64 ((ix p0.Emptyings (ix r24.1 s338.2)).Vehicle), .int .i64 ((ix p0.Emptyings (ix r24.1 s338.2)).At), .int .i64 ((ix p0.Emptyings (ix r24.1 s338.2)).Mass.Lo), .int .i64 ((ix p0.Emptyings (ix r24.1 s338.2)).Mass.Hi), .bool ((ix p0.Emptyings (ix r24.1 s338.2)).Void)]] 12 (by kernel_rfl) (by rfl) (hsub [0, 1, 2, 3, 4, 5] (by kernel_rfl) (by rfl)) ?_ ?_
        ·intro w380 c381
         refine wh_take 0 155 rfl (by kernel_rfl) (by kernel_rfl) (fun w2 c2 => (op_fieldL (m := 4) (k := 4) rfl (by kernel_rfl) rfl)) (hsub [0, 1, 2, 3, 4, 5] (by kernel_rfl) rfl _ c381) ?_
         refine wh_take 1 156 rfl (by kernel_rfl) (by kernel_rfl) (fun w2 c2 => (op_load rfl (by kernel_rfl) (c2.cell 0 (u := .slice _ _ _) rfl rfl))) (hsub [0, 1, 2, 3, 4, 5] (by kernel_rfl) rfl _ c381) ?_
         refine wh_take 2 157 rfl (by kernel_rfl) (by kernel_rfl) (fun w2 c2 => (op_move (v := .int .i64 _) rfl)) (hsub [0, 1, 2, 3, 4, 5] (by kernel_rfl) rfl _ c381) ?_
         refine wh_take 3 158 rfl (by kernel_rfl) (by kernel_rfl) (fun w2 c2 => (op_indexA 5 rfl rfl (by kernel_rfl) ((hr_p05.old c2).addr h372.1 h372.2) hz_p05.2.2 h372.1 h372.2)) (hsub [0, 1, 2, 3, 4, 5] (by kernel_rfl) rfl _ c381) ?_
         refine wh_take 4 159 rfl (by kernel_rfl) (by kernel_rfl) (fun w2 c2 => (op_loadR [.int .i64 ((ix p0.Tariffs r367.1).From), .int .i64 ((ix p0.Tariffs r367.1).Base), .int .i64 ((ix p0.Tariffs r367.1).Empty), .int .i64 ((ix p0.Tariffs r367.1).Kilo), .int .i64 ((ix p0.Tariffs r367.1).Free)] rfl (by kernel_rfl) ((hr_p05.old c2).row h372.1 h372.2))) (hsub [0, 1, 2, 3, 4, 5] (by kernel_rfl) rfl _ c381) ?_
         refine wh_take 5 160 rfl (by kernel_rfl) (by kernel_rfl) (fun w2 c2 => (op_loadR [.int .i64 _, .int .i64 _, .int .i64 _, .int .i64 _, .int .i64 _, .int .i64 _, .bool _] rfl (by kernel_rfl) (c2.cells 5 rfl rfl))) (hsub [0, 1, 2, 3, 4, 5] (by kernel_rfl) rfl _ c381) ?_
         refine wh_ready [6] (by kernel_rfl) rfl ⟨?_, trivial⟩
         refine ws_call 161 rfl (by kernel_rfl) (op_call (by kernel_rfl)) (m_tariff_Items_ok N _ (ix p0.Tariffs r367.1) (ix p0.Emptyings (ix r24.1 s338.2))  r373 h374) ?_
         rintro x w383 ⟨u382, rfl, c384⟩
         replace c384 := c381.call c384
         refine ⟨_, rfl, (hsub [1, 2, 3, 4, 5, 6] (by kernel_rfl) rfl _ c384), ?_⟩
         refine wh_strong (Hs w0 [ownE 66 5 encApiItem u382.1 u382.2.1 u382.2.2 r373.1, blkE b5 28 [.slice A_p01 n_p01 c_p01, .slice A_p02 n_p02 c_p02, .slice A_p03 n_p03 c_p03, .slice A_p04 n_p04 c_p04, .slice A_p05 n_p05 c_p05, .int .i64 p0.Gap], blkE b14 39 [.int .i64 r12.1.ID, .int .i64 r12.1.Household, .int .i64 r12.1.When.From, .int .i64 r12.1.When.To, .slice u13.1 u13.2.1 u13.2.2, .int .i64 r12.1.Total], ownE 66 5 encApiItem u13.1 u13.2.1 u13.2.2 r12.1.Items, ownE 66 5 encApiItem u339.1 u339.2.1 u339.2.2 s338.1, ownE 3 1 encI u25.1 u25.2.1 u25.2.2 r24.1, blkE u357 59 [.int .i64 ((ix p0.Emptyings (ix r24.1 s338.2)).ID), .int .i64 ((ix p0.Emptyings (ix r24.1 s338.2)).Container), .int .i64 ((ix p0.Emptyings (ix r24.1 s338.2)).Vehicle), .int .i64 ((ix p0.Emptyings (ix r24.1 s338.2)).At), .int .i64 ((ix p0.Emptyings (ix r24.1 s338.2)).Mass.Lo), .int .i64 ((ix p0.Emptyings (ix r24.1 s338.2)).Mass.Hi), .bool ((ix p0.Emptyings (ix r24.1 s338.2)).Void)]]) (fun w2 c2 => hsub [1, 2, 3, 4, 5, 6] (by kernel_rfl) rfl w2 c2) ?_
         refine wh_take 7 154 rfl (by kernel_rfl) (by kernel_rfl) (fun w2 c2 => (op_move (v := .tuple _) rfl)) (hsub [0, 1, 2, 3, 4, 5, 6] (by kernel_rfl) rfl _ c384) ?_
         refine wh_take 8 162 rfl (by kernel_rfl) (by kernel_rfl) (fun w2 c2 => (op_extract (v := .slice _ _ _) rfl rfl)) (hsub [0, 1, 2, 3, 4, 5, 6] (by kernel_rfl) rfl _ c384) ?_
         refine wh_take 9 163 rfl (by kernel_rfl) (by kernel_rfl) (fun w2 c2 => (op_extract (v := .int .i64 _) rfl rfl)) (hsub [0, 1, 2, 3, 4, 5, 6] (by kernel_rfl) rfl _ c384) ?_
         refine wh_take 10 15 rfl (by kernel_rfl) (by kernel_rfl) (fun w2 c2 => (op_assign (v := .slice _ _ _) rfl)) (hsub [0, 1, 2, 3, 4, 5, 6] (by kernel_rfl) rfl _ c384) ?_
         refine wh_take 11 16 rfl (by kernel_rfl) (by kernel_rfl) (fun w2 c2 => (op_assign (v := .int .i64 _) rfl)) (hsub [0, 1, 2, 3, 4, 5, 6] (by kernel_rfl) rfl _ c384) ?_
         exact wh_done (u382.1, u382.2.1, u382.2.2) (by kernel_rfl) sq (hsub [1, 2, 3, 4, 5, 0] (by kernel_rfl) rfl _ c384)
        intro u378
        refine xm_next ?_
        refine cm_seq ?_
        refine sr ?_
        refine la 2 ((165, .bool _) :: (164, .int .i64 _) :: _) rfl ?_
        refine nn ?_
        refine cm_cond (by kernel_rfl) rfl (fun h385 => ?_) (fun h385 => ?_)
        ·refine sr ?_
         refine la 1 ((4, .bool false) :: _) rfl ?_
         refine nn ?_
         refine cm_ret ?_
         refine xm_thenR ?_
         refine xm_inR ?_
         refine xm_thenR ?_
         refine xm_lret ?_
         refine xm_inR ?_
         refine xm_lret ?_
         exact xm_retT rfl (by kernel_rfl) (show _ = Value.bool false from rfl) fun w1 c1 => ⟨(), rfl, hsub [] (by kernel_rfl) rfl w1 c1⟩
        ·refine sk ?_
         refine cm_region ?_
         refine lm_slice0 166 (el := 66) (sz := 5) (bytes := 40) (enc := encApiItem) (by kernel_rfl) (by kernel_rfl) ?_
         intro A386 n387 k388 h389
         refine la 1 ((167, .slice _ _ _) :: _) rfl ?_
         refine lm_ck (fun h390 => ?_)
         refine lm_append 168 0 (el := 66) (sz := 5) (bytes := 40) (enc := encApiItem) (l2 := s338.1) (by kernel_rfl) (by kernel_rfl) encApiItem_len encApiItem_one rfl rfl rfl (fun w1 c1 => (c1.ownZ 4 rfl)) (fun w1 c1 => (c1.own 4 rfl encApiItem_len)) h390 ?_ (by kernel_rfl)
         intro A391 n392 k393
         refine la 1 ((169, .slice _ _ _) :: _) rfl ?_
         refine lm_ck (fun h394 => ?_)
         refine lm_append 170 0 (el := 66) (sz := 5) (bytes := 40) (enc := encApiItem) (l2 := r373.1) (by kernel_rfl) (by kernel_rfl) encApiItem_len encApiItem_one rfl rfl rfl (fun w1 c1 => (c1.ownZ 6 rfl)) (fun w1 c1 => (c1.own 6 rfl encApiItem_len)) h394 ?_ (by kernel_rfl)
         intro A395 n396 k397
         refine la 1 ((7, .slice _ _ _) :: _) rfl ?_
         refine lm_nil ?_
         refine xm_inN ?_
         refine xm_next ?_
         refine cm_region ?_
         refine la 1 ((107, .int .i64 _) :: _) rfl ?_
         refine lm_ck (fun h398 => ?_)
         refine v_ 108 (fun _ _ => op_add rfl rfl h398) ?_
         refine la 1 ((11, .int .i64 _) :: _) rfl ?_
         refine lm_nil ?_
         exact xm_lnext (A395, n396, k397) sq (sh [1, 2, 3, 0, 5])
     ·refine cm_exit ?_
      refine xm_thenE ?_
      refine xm_lexit ?_
      refine xm_here ?_
      exact xm_lnext (u339.1, u339.2.1, u339.2.2) sq (sh [0, 1, 2, 3])
    intro s214 u215
    refine sr ?_
    refine la 1 ((17, .int .i64 _) :: _) rfl ?_
    refine nn ?_
    refine cm_join (σ := Int) (ξ := Unit) (fun s417 u418 => [(2, .pointer (some ⟨b5, 0, none⟩)), (5, .pointer (some ⟨b14, 0, none⟩)), (7, .slice u215.1 u215.2.1 u215.2.2), (17, .int .i64 s417)]) (fun s417 u418 => [blkE b5 28 [.slice A_p01 n_p01 c_p01, .slice A_p02 n_p02 c_p02, .slice A_p03 n_p03 c_p03, .slice A_p04 n_p04 c_p04, .slice A_p05 n_p05 c_p05, .int .i64 p0.Gap], blkE b14 39 [.int .i64 r12.1.ID, .int .i64 r12.1.Household, .int .i64 r12.1.When.From, .int .i64 r12.1.When.To, .slice u13.1 u13.2.1 u13.2.2, .int .i64 r12.1.Total], ownE 66 5 encApiItem u13.1 u13.2.1 u13.2.2 r12.1.Items, ownE 66 5 encApiItem u215.1 u215.2.1 u215.2.2 s214]) ?_ ?_
    ·refine sr ?_
     refine la 1 ((18, .int .i64 _) :: _) rfl ?_
     refine nn ?_
     refine cm_block ?_
     refine cm_loop (σ := Int × Int) (ξ := Unit) (fun s431 u432 => [(2, .pointer (some ⟨b5, 0, none⟩)), (5, .pointer (some ⟨b14, 0, none⟩)), (7, .slice u215.1 u215.2.1 u215.2.2), (17, .int .i64 s431.1), (18, .int .i64 s431.2)]) (fun s431 u432 => [blkE b5 28 [.slice A_p01 n_p01 c_p01, .slice A_p02 n_p02 c_p02, .slice A_p03 n_p03 c_p03, .slice A_p04 n_p04 c_p04, .slice A_p05 n_p05 c_p05, .int .i64 p0.Gap], blkE b14 39 [.int .i64 r12.1.ID, .int .i64 r12.1.Household, .int .i64 r12.1.When.From, .int .i64 r12.1.When.To, .slice u13.1 u13.2.1 u13.2.2, .int .i64 r12.1.Total], ownE 66 5 encApiItem u13.1 u13.2.1 u13.2.2 r12.1.Items, ownE 66 5 encApiItem u215.1 u215.2.1 u215.2.2 s214]) () ?_ ?_ ?_
     ·exact sq
     ·exact sh [0, 1, 2, 3]
     intro s431 u432
     refine cm_seq ?_
     refine sr ?_
     refine la 2 ((172, .slice _ _ _) :: (171, .int .i64 _) :: _) rfl ?_
     refine v_ 173 (fun _ c1 => op_lenN rfl (by kernel_rfl) (c1.ownZ 3 rfl).2.2) ?_
     refine la 1 ((174, .bool _) :: _) rfl ?_
     refine nn ?_
     refine cm_cond (by kernel_rfl) rfl (fun h433 => ?_) (fun h433 => ?_)
     ·refine sk ?_
      refine cm_seq ?_
      refine cm_block ?_
      refine cm_region ?_
      refine la 3 ((179, .int .i64 _) :: (178, .slice _ _ _) :: (177, .int .i64 _) :: _) rfl ?_
      refine lm_ck (fun h434 => ?_)
      refine v_ 180 (fun _ c1 => oI 5 rfl rfl ((c1.own 3 rfl encApiItem_len).addr h434.1 h434.2) (c1.ownZ 3 rfl).2.2 h434) ?_
      refine v_ 181 (fun _ _ => op_field (m := 4) rfl (by kernel_rfl)) ?_
      refine v_ 182 (fun _ c1 => oL (v := .int .i64 ((ix s214 s431.2).Amount)) ((c1.own 3 rfl encApiItem_len).cell (j := 4) h434.1 h434.2 rfl)) ?_
      refine lm_ck (fun h435 => ?_)
      refine v_ 183 (fun _ _ => op_add rfl rfl h435) ?_
      refine la 1 ((17, .int .i64 _) :: _) rfl ?_
      refine lm_nil ?_
      refine xm_inN ?_
      refine xm_next ?_
      refine cm_region ?_
      refine la 1 ((175, .int .i64 _) :: _) rfl ?_
      refine lm_ck (fun h436 => ?_)
      refine v_ 176 (fun _ _ => op_add rfl rfl h436) ?_
      refine la 1 ((18, .int .i64 _) :: _) rfl ?_
      refine lm_nil ?_
      exact xm_lnext () sq (sh [0, 1, 2, 3])
     ·refine cm_exit ?_
      refine xm_thenE ?_
      refine xm_lexit ?_
      refine xm_here ?_
      exact xm_lnext () sq (sh [0, 1, 2, 3])
    intro s417 u418
    refine cm_seq ?_
    refine cm_bind fun r437 h438 => ?_
    refine cm_callIf fun r439 h440 => ?_
    refine cm_callIf fun r441 h442 => ?_
    refine cm_cutE [(4, .bool (((r437 && (decide (r12.1.Total = s417))) && (decide (r439 = 0))) && r441))] ?_ ?_
    ·refine q_ 184 (fun _ _ => oF 4 4 rfl) ?_
     refine q_ 185 (fun _ c1 => oL (c1.cell 1 (u := .slice _ _ _) rfl rfl)) ?_
     refine qa 1 ((186, .slice _ _ _) :: _) rfl ?_
     refine wq_callb 187 (by kernel_rfl) (fun w1 c1 => op_call (by kernel_rfl)) (fun w1 c1 => (m_recyclingref53_Same_ok N w1 r12.1.Items s214 u13.1 u13.2.1 u13.2.2 u215.1 u215.2.1 u215.2.2 (c1.own 2 rfl encApiItem_len) (c1.ownZ 2 rfl) (c1.own 3 rfl encApiItem_len) (c1.ownZ 3 rfl) r437 h438).mono (fun _ _ ⟨_, hx, hu⟩ => ⟨hx, c1.call hu⟩)) (fun h443 => ?_) (fun h443 => ?_)
     ·refine qa 1 ((188, .bool true) :: _) rfl ?_
      refine q_ 189 (fun _ _ => oF 5 5 rfl) ?_
      refine q_ 190 (fun _ c1 => oL (c1.cell 1 (u := .int .i64 _) rfl rfl)) ?_
      refine qa 1 ((191, .int .i64 _) :: _) rfl ?_
      refine qd 192 (fun _ _ => op_eql rfl rfl) (fun h444 => ?_) (fun h444 => ?_)
      ·refine qa 2 ((194, .bool true) :: (193, .bool true) :: _) rfl ?_
       refine q_ 195 (fun _ c1 => oR [.slice _ _ _, .slice _ _ _, .slice _ _ _, .slice _ _ _, .slice _ _ _, .int .i64 _] (c1.cells 0 rfl rfl)) ?_
       refine q_ 196 (fun _ c1 => oR [.int .i64 _, .int .i64 _, .int .i64 _, .int .i64 _, .slice _ _ _, .int .i64 _] (c1.cells 1 rfl rfl)) ?_
       refine wq_call 197 (by kernel_rfl) (fun w1 c1 => op_call (by kernel_rfl)) (fun w1 c1 => (m_bill_Right_ok N w1 p0 r12.1 A_p01 n_p01 c_p01 A_p02 n_p02 c_p02 A_p03 n_p03 c_p03 A_p04 n_p04 c_p04 A_p05 n_p05 c_p05 u13.1 u13.2.1 u13.2.2 (hr_p01.old c1) hz_p01 (hr_p02.old c1) hz_p02 (hr_p03.old c1) hz_p03 (hr_p04.old c1) hz_p04 (hr_p05.old c1) hz_p05 (c1.own 2 rfl encApiItem_len) (c1.ownZ 2 rfl) r439 (h440 (by rw [h443, decide_eq_true h444] <;> rfl))).mono (fun _ _ ⟨_, hx, hu⟩ => ⟨hx, c1.call hu⟩)) ?_
       refine qd 198 (fun _ _ => op_eql rfl rfl) (fun h445 => ?_) (fun h445 => ?_)
       ·refine qa 2 ((200, .bool true) :: (199, .bool true) :: _) rfl ?_
        refine wq_call 201 (by kernel_rfl) (fun w1 c1 => op_call (by kernel_rfl)) (fun w1 c1 => (m_recyclinglaw54_awake_ok N w1  (hs_tab ht c1) r441 (h442 (by rw [h443, decide_eq_true h444, decide_eq_true h445] <;> rfl))).mono (fun _ _ ⟨_, hx, hu⟩ => ⟨hx, c1.call hu⟩)) ?_
        refine qa 2 ((4, .bool _) :: (202, .bool _) :: _) rfl ?_
        exact leaf_q (sub_out 20 _ rfl (by kernel_rfl) ⟨(congrArg Value.bool (by rw [h443, decide_eq_true h444, decide_eq_true h445] <;> rfl)), trivial⟩)
       ·refine qa 5 ((4, .bool false) :: (202, .bool false) :: (201, undef) :: (200, .bool false) :: (199, .bool false) :: _) rfl ?_
        exact leaf_q (sub_out 20 _ rfl (by kernel_rfl) ⟨(congrArg Value.bool (by rw [h443, decide_eq_true h444, decide_eq_false h445] <;> rfl)), trivial⟩)
      ·refine qa 11 ((4, .bool false) :: (202, .bool false) :: (201, undef) :: (200, .bool false) :: (199, .bool false) :: (198, undef) :: (197, undef) :: (196, undef) :: (195, undef) :: (194, .bool false) :: (193, .bool false) :: _) rfl ?_
       exact leaf_q (sub_out 20 _ rfl (by kernel_rfl) ⟨(congrArg Value.bool (by rw [h443, decide_eq_false h444] <;> rfl)), trivial⟩)
     ·refine qa 16 ((4, .bool false) :: (202, .bool false) :: (201, undef) :: (200, .bool false) :: (199, .bool false) :: (198, undef) :: (197, undef) :: (196, undef) :: (195, undef) :: (194, .bool false) :: (193, .bool false) :: (192, undef) :: (191, undef) :: (190, undef) :: (189, undef) :: (188, .bool false) :: _) rfl ?_
      exact leaf_q (sub_out 20 _ rfl (by kernel_rfl) ⟨(congrArg Value.bool (by rw [h443] <;> rfl)), trivial⟩)
    refine xm_next ?_
    refine cm_ret ?_
    exact xm_retT rfl (by kernel_rfl) (show _ = Value.bool _ from rfl) fun w1 c1 => ⟨(), rfl, hsub [] (by kernel_rfl) rfl w1 c1⟩
end Go.Proofs.YtpbgfdmkebnjgaaGreatDoor
