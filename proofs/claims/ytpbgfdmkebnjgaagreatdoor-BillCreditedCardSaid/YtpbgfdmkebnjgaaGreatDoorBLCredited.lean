/- Models of functions, and that the code follows them. Written by deco.py. -/
import Derived.Test.YtpbgfdmkebnjgaaGreatDoorBGr
import Derived.Test.YtpbgfdmkebnjgaaGreatDoorDPair
namespace Go.Proofs.YtpbgfdmkebnjgaaGreatDoor
open Go.RowKit
set_option linter.unusedSectionVars false
variable [JF]

structure Arr2Int where
 E0 : Int
 E1 : Int
deriving DecidableEq, Inhabited
def encArr2Int (x : Arr2Int) : List Value := [.int .i64 x.E0, .int .i64 x.E1]
def valArr2Int (x : Arr2Int) : Value := .agg #[.int .i64 x.E0, .int .i64 x.E1]
theorem encArr2Int_len (x : Arr2Int) : (encArr2Int x).length = 2 := rfl
theorem encArr2Int_one (x : Arr2Int) : (encArr2Int x).all Value.oneCell' = true := rfl
/-- recyclinglaw54.BillCredited -/
def m_recyclinglaw54_BillCredited (N : Nat) (p0 : ApiAccount) (p1 : Recyclinglaw54Ask) (p2 : (List Arr2Int)) : Option (Bool) :=
 Option.bind (m_recyclinglaw54_great N p0) fun r7 => (if (r7 || (decide (20 < (List.length p2 : Int)))) = true then
  Option.bind (m_recyclinglaw54_awake N) fun r11 => some (r11)
 else
  Option.bind (m_bill_Make N p0 p1.ID p1.Household p1.When) fun r13 => (if r13.2 ≠ 0 then
   Option.bind (m_recyclinglaw54_awake N) fun r17 => some (r17)
  else
   (andThen
    (loopM (fun (s591 : Int × Int × Int × Int × Int × (List ApiItem) × Int × Int) =>
     (if s591.2.2.2.2.2.2.2 < (List.length p2 : Int) then
      (andThen
       (ck ((0 : Int) ≤ s591.2.2.2.2.2.2.2 ∧ s591.2.2.2.2.2.2.2 < (List.length p2 : Int)) (
        ck ((0 : Int) ≤ s591.2.2.2.2.2.2.2 ∧ s591.2.2.2.2.2.2.2 < (List.length p2 : Int)) (
         Option.bind (m_bill_Credit N (ApiBill.mk s591.2.1 s591.2.2.1 (ApiWindow.mk s591.2.2.2.1 s591.2.2.2.2.1) s591.2.2.2.2.2.1 s591.2.2.2.2.2.2.1) ((ix p2 s591.2.2.2.2.2.2.2).E0) ((ix p2 s591.2.2.2.2.2.2.2).E1)) fun r650 => (if r650.2 ≠ 0 then
          some (.next (s591.1, s591.2.1, s591.2.2.1, s591.2.2.2.1, s591.2.2.2.2.1, s591.2.2.2.2.2.1, s591.2.2.2.2.2.2.1))
         else
          ck ((0 : Int) ≤ s591.2.2.2.2.2.2.2 ∧ s591.2.2.2.2.2.2.2 < (List.length p2 : Int)) (
           ck (I64 (s591.1 - ((ix p2 s591.2.2.2.2.2.2.2).E1))) (
            ck ((0 : Int) ≤ s591.2.2.2.2.2.2.2 ∧ s591.2.2.2.2.2.2.2 < (List.length p2 : Int)) (
             (if (((decide ((ix p2 s591.2.2.2.2.2.2.2).E1 < 1)) || (decide (r650.1.Total ≠ (s591.1 - ((ix p2 s591.2.2.2.2.2.2.2).E1))))) || (decide ((List.length r650.1.Items : Int) = 0))) = true then
              some (.done (.done (.done (false))))
             else
              some (.next ((s591.1 - ((ix p2 s591.2.2.2.2.2.2.2).E1)), r650.1.ID, r650.1.Household, r650.1.When.From, r650.1.When.To, r650.1.Items, r650.1.Total))))))))))
      fun (s646 : Int × Int × Int × Int × Int × (List ApiItem) × Int) =>
       ck (I64 (s591.2.2.2.2.2.2.2 + (1 : Int))) (
        some (.next (s646.1, s646.2.1, s646.2.2.1, s646.2.2.2.1, s646.2.2.2.2.1, s646.2.2.2.2.2.1, s646.2.2.2.2.2.2, (s591.2.2.2.2.2.2.2 + (1 : Int))))))
     else
      some (.done (.next (s591.2.1, s591.2.2.1, s591.2.2.2.1, s591.2.2.2.2.1, s591.2.2.2.2.2.1, s591.2.2.2.2.2.2.1))))) N (r13.1.Total, r13.1.ID, r13.1.Household, r13.1.When.From, r13.1.When.To, r13.1.Items, r13.1.Total, (0 : Int)))
   fun (s369 : Int × Int × Int × Int × (List ApiItem) × Int) =>
    Option.bind (m_bill_Right N p0 (ApiBill.mk s369.1 s369.2.1 (ApiWindow.mk s369.2.2.1 s369.2.2.2.1) s369.2.2.2.2.1 s369.2.2.2.2.2)) fun r701 => (if r701 ≠ 0 then
     some (false)
    else
     (andThen
      (loopM (fun (s776 : Int × Int) =>
       (if s776.2 < (List.length r13.1.Items : Int) then
        (andThen
         (ck ((0 : Int) ≤ s776.2 ∧ s776.2 < (List.length r13.1.Items : Int)) (
          (if (ix r13.1.Items s776.2).Kind = 1 then
           ck ((0 : Int) ≤ s776.2 ∧ s776.2 < (List.length r13.1.Items : Int)) (
            ck (I64 (s776.1 + ((ix r13.1.Items s776.2).Amount))) (
             some (.next (s776.1 + ((ix r13.1.Items s776.2).Amount)))))
          else
           some (.next s776.1))))
        fun (s783 : Int) =>
         ck (I64 (s776.2 + (1 : Int))) (
          some (.next (s783, (s776.2 + (1 : Int))))))
       else
        some (.done (.next s776.1)))) N ((0 : Int), (0 : Int)))
     fun (s746 : Int) =>
      callIf (decide (s746 ≤ s369.2.2.2.2.2) = true) (m_recyclinglaw54_awake N) fun r790 => some (((decide (s746 ≤ s369.2.2.2.2.2)) && r790)))))))
set_option maxHeartbeats 2000000 in
set_option maxRecDepth 20000 in
theorem m_recyclinglaw54_BillCredited_ok (N : Nat) (w0 : World) (p0 : ApiAccount) (p1 : Recyclinglaw54Ask) (p2 : (List Arr2Int)) (A_p01 : Option Addr) (n_p01 : Nat) (c_p01 : Nat) (A_p02 : Option Addr) (n_p02 : Nat) (c_p02 : Nat) (A_p03 : Option Addr) (n_p03 : Nat) (c_p03 : Nat) (A_p04 : Option Addr) (n_p04 : Nat) (c_p04 : Nat) (A_p05 : Option Addr) (n_p05 : Nat) (c_p05 : Nat) (A_p2 : Option Addr) (n_p2 : Nat) (c_p2 : Nat) (hr_p01 : RdE w0 2 encApiHousehold A_p01 p0.Households) (hz_p01 : SW A_p01 n_p01 c_p01 (List.length p0.Households)) (hr_p02 : RdE w0 5 encApiContainer A_p02 p0.Containers) (hz_p02 : SW A_p02 n_p02 c_p02 (List.length p0.Containers)) (hr_p03 : RdE w0 4 encApiAssign A_p03 p0.Assigns) (hz_p03 : SW A_p03 n_p03 c_p03 (List.length p0.Assigns)) (hr_p04 : RdE w0 7 encApiEmptying A_p04 p0.Emptyings) (hz_p04 : SW A_p04 n_p04 c_p04 (List.length p0.Emptyings)) (hr_p05 : RdE w0 5 encApiTariff A_p05 p0.Tariffs) (hz_p05 : SW A_p05 n_p05 c_p05 (List.length p0.Tariffs)) (hr_p2 : RdE w0 2 encArr2Int A_p2 p2) (hz_p2 : SW A_p2 n_p2 c_p2 (List.length p2)) (ht : Tab w0) (r : Bool) (hr : m_recyclinglaw54_BillCredited N p0 p1 p2 = some r) :
  Ret Tryz.prog 10 [.agg #[.slice A_p01 n_p01 c_p01, .slice A_p02 n_p02 c_p02, .slice A_p03 n_p03 c_p03, .slice A_p04 n_p04 c_p04, .slice A_p05 n_p05 c_p05, .int .i64 p0.Gap], .agg #[.int .i64 p1.ID, .int .i64 p1.Household, .int .i64 p1.When.From, .int .i64 p1.When.To], .slice A_p2 n_p2 c_p2] w0 (fun (r : Bool) (_u : Unit) => .bool r) (fun (_r : Bool) (_u : Unit) => []) r := by
 refine calls_v (n := 123) r hr Tryz.func10 ?_
 unfold m_recyclinglaw54_BillCredited
 refine sr ?_
 refine lm_box 3 [.slice _ _ _, .slice _ _ _, .slice _ _ _, .slice _ _ _, .slice _ _ _, .int .i64 _] (by kernel_rfl) rfl ?_
 intro b5
 refine lm_box 4 [.int .i64 _, .int .i64 _, .int .i64 _, .int .i64 _] (by kernel_rfl) rfl ?_
 intro b6
 refine la 1 ((6, .bool false) :: _) rfl ?_
 refine nn ?_
 refine cm_seq ?_
 refine cm_seq ?_
 refine cm_bind fun r7 h8 => ?_
 refine cm_cutE [(22, .bool (r7 || (decide (20 < (List.length p2 : Int)))))] ?_ ?_
 ·refine q_ 16 (fun _ c1 => oR [.slice _ _ _, .slice _ _ _, .slice _ _ _, .slice _ _ _, .slice _ _ _, .int .i64 _] (c1.cells 1 rfl rfl)) ?_
  refine wq_callb 17 (by kernel_rfl) (fun w1 c1 => op_call (by kernel_rfl)) (fun w1 c1 => (m_recyclinglaw54_great_ok N w1 p0 A_p01 n_p01 c_p01 A_p02 n_p02 c_p02 A_p03 n_p03 c_p03 A_p04 n_p04 c_p04 A_p05 n_p05 c_p05 (hr_p01.old c1) hz_p01 (hr_p02.old c1) hz_p02 (hr_p03.old c1) hz_p03 (hr_p04.old c1) hz_p04 (hr_p05.old c1) hz_p05 r7 h8).mono (fun _ _ ⟨_, hx, hu⟩ => ⟨hx, c1.call hu⟩)) (fun h9 => ?_) (fun h9 => ?_)
  ·refine qa 5 ((22, .bool true) :: (21, undef) :: (20, undef) :: (19, undef) :: (18, .bool true) :: _) rfl ?_
   exact leaf_q (sub_out 7 _ rfl (by kernel_rfl) ⟨(congrArg Value.bool (by rw [h9] <;> rfl)), trivial⟩)
  ·refine qa 2 ((19, .slice _ _ _) :: (18, .bool false) :: _) rfl ?_
   refine q_ 20 (fun _ _ => op_lenN rfl (by kernel_rfl) hz_p2.2.2) ?_
   refine qa 2 ((22, .bool _) :: (21, .bool _) :: _) rfl ?_
   exact leaf_q (sub_out 7 _ rfl (by kernel_rfl) ⟨(congrArg Value.bool (by rw [h9] <;> rfl)), trivial⟩)
 refine xm_next ?_
 refine cm_condB (by kernel_rfl) rfl (fun h10 => ?_) (fun h10 => ?_)
 ·refine sr ?_
  refine lm_call 23 (V := (fun (r : Bool) (_u : Unit) => .bool r)) (HR := (fun (_r : Bool) (_u : Unit) => [])) (by kernel_rfl) (fun w1 => op_call (by kernel_rfl)) (fun r1 hr1 w1 c1 => m_recyclinglaw54_awake_ok N w1  (hs_tab ht c1) r1 hr1) ?_
  intro r11 u12
  refine la 1 ((6, .bool _) :: _) rfl ?_
  refine nn ?_
  refine cm_ret ?_
  refine xm_thenR ?_
  exact xm_retT rfl (by kernel_rfl) (show _ = Value.bool _ from rfl) fun w1 c1 => ⟨(), rfl, hsub [] (by kernel_rfl) rfl w1 c1⟩
 ·refine sk ?_
  refine sr ?_
  refine v_ 25 (fun _ c1 => oR [.slice _ _ _, .slice _ _ _, .slice _ _ _, .slice _ _ _, .slice _ _ _, .int .i64 _] (c1.cells 1 rfl rfl)) ?_
  refine v_ 26 (fun _ _ => oF 0 0 rfl) ?_
  refine v_ 27 (fun _ c1 => oL (c1.cell 0 (u := .int .i64 _) rfl rfl)) ?_
  refine v_ 28 (fun _ _ => oF 1 1 rfl) ?_
  refine v_ 29 (fun _ c1 => oL (c1.cell 0 (u := .int .i64 _) rfl rfl)) ?_
  refine v_ 30 (fun _ _ => oF 2 2 rfl) ?_
  refine v_ 31 (fun _ c1 => oR [.int .i64 _, .int .i64 _] (c1.cells 0 rfl rfl)) ?_
  refine lm_call 32 (V := (fun (r : ApiBill × Int) (u : (Option Addr) × Nat × Nat) => .tuple #[.agg #[.int .i64 r.1.ID, .int .i64 r.1.Household, .int .i64 r.1.When.From, .int .i64 r.1.When.To, .slice u.1 u.2.1 u.2.2, .int .i64 r.1.Total], .int .i64 r.2])) (HR := (fun (r : ApiBill × Int) (u : (Option Addr) × Nat × Nat) => [ownE 66 5 encApiItem u.1 u.2.1 u.2.2 r.1.Items])) (by kernel_rfl) (fun w1 => op_call (by kernel_rfl)) (fun r1 hr1 w1 c1 => m_bill_Make_ok N w1 p0 p1.ID p1.Household p1.When A_p01 n_p01 c_p01 A_p02 n_p02 c_p02 A_p03 n_p03 c_p03 A_p04 n_p04 c_p04 A_p05 n_p05 c_p05 (hr_p01.old c1) hz_p01 (hr_p02.old c1) hz_p02 (hr_p03.old c1) hz_p03 (hr_p04.old c1) hz_p04 (hr_p05.old c1) hz_p05 r1 hr1) ?_
  intro r13 u14
  refine la 3 ((34, .int .i64 _) :: (33, .agg _) :: (24, .tuple _) :: _) rfl ?_
  refine lm_alloc 7 [.int .i64 0, .int .i64 0, .int .i64 0, .int .i64 0, .slice none 0 0, .int .i64 0] (v := .agg #[.int .i64 0, .int .i64 0, .int .i64 0, .int .i64 0, .slice none 0 0, .int .i64 0]) (by kernel_rfl) (by kernel_rfl) rfl ?_
  intro b15
  refine lm_storeA 0 [.int .i64 _, .int .i64 _, .int .i64 _, .int .i64 _, .slice _ _ _, .int .i64 _] [_, _, _, _, _, _] (H' := [blkE _ _ [_, _, _, _, _, _], _, _, _]) (by kernel_rfl) rfl rfl (by kernel_rfl) rfl rfl (by kernel_rfl) rfl rfl ?_
  refine la 1 ((8, .int .i64 _) :: _) rfl ?_
  refine nn ?_
  refine cm_seq ?_
  refine sr ?_
  refine la 2 ((36, .bool _) :: (35, .int .i64 _) :: _) rfl ?_
  refine nn ?_
  refine cm_cond (by kernel_rfl) rfl (fun h16 => ?_) (fun h16 => ?_)
  ·refine sr ?_
   refine lm_call 37 (V := (fun (r : Bool) (_u : Unit) => .bool r)) (HR := (fun (_r : Bool) (_u : Unit) => [])) (by kernel_rfl) (fun w1 => op_call (by kernel_rfl)) (fun r1 hr1 w1 c1 => m_recyclinglaw54_awake_ok N w1  (hs_tab ht c1) r1 hr1) ?_
   intro r17 u18
   refine la 1 ((6, .bool _) :: _) rfl ?_
   refine nn ?_
   refine cm_ret ?_
   refine xm_thenR ?_
   exact xm_retT rfl (by kernel_rfl) (show _ = Value.bool _ from rfl) fun w1 c1 => ⟨(), rfl, hsub [] (by kernel_rfl) rfl w1 c1⟩
  ·refine sk ?_
   refine cm_seq ?_
   refine cm_held (ξ := Nat) (fun u29 => [(2, .slice A_p2 n_p2 c_p2), (3, .pointer (some ⟨b5, 0, none⟩)), (7, .pointer (some ⟨b15, 0, none⟩)), (9, .int .i64 r13.1.Total), (10, .pointer (some ⟨u29, 0, none⟩))]) (fun u29 => [blkE b5 28 [.slice A_p01 n_p01 c_p01, .slice A_p02 n_p02 c_p02, .slice A_p03 n_p03 c_p03, .slice A_p04 n_p04 c_p04, .slice A_p05 n_p05 c_p05, .int .i64 p0.Gap], blkE b15 39 [.int .i64 r13.1.ID, .int .i64 r13.1.Household, .int .i64 r13.1.When.From, .int .i64 r13.1.When.To, .slice u14.1 u14.2.1 u14.2.2, .int .i64 r13.1.Total], twoE (ownE 66 5 encApiItem u14.1 u14.2.1 u14.2.2 r13.1.Items) (ownE 66 5 encApiItem u14.1 u14.2.1 u14.2.2 r13.1.Items), blkE u29 39 [.int .i64 r13.1.ID, .int .i64 r13.1.Household, .int .i64 r13.1.When.From, .int .i64 r13.1.When.To, .slice u14.1 u14.2.1 u14.2.2, .int .i64 r13.1.Total]]) [blkE b15 39 [.int .i64 r13.1.ID, .int .i64 r13.1.Household, .int .i64 r13.1.When.From, .int .i64 r13.1.When.To, .slice u14.1 u14.2.1 u14.2.2, .int .i64 r13.1.Total], ownE 66 5 encApiItem u14.1 u14.2.1 u14.2.2 r13.1.Items, blkE b6 36 [.int .i64 p1.ID, .int .i64 p1.Household, .int .i64 p1.When.From, .int .i64 p1.When.To], blkE b5 28 [.slice A_p01 n_p01 c_p01, .slice A_p02 n_p02 c_p02, .slice A_p03 n_p03 c_p03, .slice A_p04 n_p04 c_p04, .slice A_p05 n_p05 c_p05, .int .i64 p0.Gap]] 6 (by kernel_rfl) (by rfl) (hsub [0, 1, 2, 3] (by kernel_rfl) (by rfl)) ?_ ?_
   ·intro w31 c32
    refine wh_take 0 38 rfl (by kernel_rfl) (by kernel_rfl) (fun w2 c2 => (op_fieldL (m := 5) (k := 5) rfl (by kernel_rfl) rfl)) (hsub [0, 1, 2, 3] (by kernel_rfl) rfl _ c32) ?_
    refine wh_take 1 39 rfl (by kernel_rfl) (by kernel_rfl) (fun w2 c2 => (op_load rfl (by kernel_rfl) (c2.cell 0 (u := .int .i64 _) rfl rfl))) (hsub [0, 1, 2, 3] (by kernel_rfl) rfl _ c32) ?_
    refine wh_take 2 40 rfl (by kernel_rfl) (by kernel_rfl) (fun w2 c2 => (op_loadR [.int .i64 _, .int .i64 _, .int .i64 _, .int .i64 _, .slice _ _ _, .int .i64 _] rfl (by kernel_rfl) (c2.cells 0 rfl rfl))) (hsub [0, 1, 2, 3] (by kernel_rfl) rfl _ c32) ?_
    refine wh_ready [3] (by kernel_rfl) rfl ⟨?_, trivial⟩
    refine ws_alloc 10 [.int .i64 0, .int .i64 0, .int .i64 0, .int .i64 0, .slice none 0 0, .int .i64 0] (v := .agg #[.int .i64 0, .int .i64 0, .int .i64 0, .int .i64 0, .slice none 0 0, .int .i64 0]) rfl (by kernel_rfl) (by kernel_rfl) rfl c32 ?_
    intro b33 w34 c35
    refine ⟨(hsub [1, 2, 3, 4] (by kernel_rfl) rfl _ c35), ?_⟩
    refine wh_take 4 9 rfl (by kernel_rfl) (by kernel_rfl) (fun w2 c2 => (op_assign (v := .int .i64 _) rfl)) (hsub [1, 2, 3, 4] (by kernel_rfl) rfl _ c35) ?_
    refine wh_ready [5] (by kernel_rfl) rfl ⟨?_, trivial⟩
    refine ws_storeA 0 [.int .i64 _, .int .i64 _, .int .i64 _, .int .i64 _, .slice _ _ _, .int .i64 _] [_, _, _, _, _, _] rfl (by kernel_rfl) rfl rfl (by kernel_rfl) rfl rfl (by kernel_rfl) rfl (H' := [blkE _ _ [_, _, _, _, _, _], _, _, _, _]) rfl c35 ?_
    intro w36 c37
    refine ⟨(hsub [1, 2, 3, 4] (by kernel_rfl) rfl _ c37), ?_⟩
    have c38 : Hs w0 [twoE (ownE 66 5 encApiItem u14.1 u14.2.1 u14.2.2 r13.1.Items) (ownE 66 5 encApiItem u14.1 u14.2.1 u14.2.2 r13.1.Items), blkE b33 39 [.int .i64 r13.1.ID, .int .i64 r13.1.Household, .int .i64 r13.1.When.From, .int .i64 r13.1.When.To, .slice u14.1 u14.2.1 u14.2.2, .int .i64 r13.1.Total], blkE b15 39 [.int .i64 r13.1.ID, .int .i64 r13.1.Household, .int .i64 r13.1.When.From, .int .i64 r13.1.When.To, .slice u14.1 u14.2.1 u14.2.2, .int .i64 r13.1.Total], blkE b6 36 [.int .i64 p1.ID, .int .i64 p1.Household, .int .i64 p1.When.From, .int .i64 p1.When.To], blkE b5 28 [.slice A_p01 n_p01 c_p01, .slice A_p02 n_p02 c_p02, .slice A_p03 n_p03 c_p03, .slice A_p04 n_p04 c_p04, .slice A_p05 n_p05 c_p05, .int .i64 p0.Gap]] _ := (hs_dup 2 [0, 1, 3, 4]) _ c37
    exact wh_done b33 (by kernel_rfl) sq (hsub [4, 2, 0, 1] (by kernel_rfl) rfl _ c38)
   intro u29
   refine xm_next ?_
   refine cm_join (σ := Int × Int × Int × Int × (List ApiItem) × Int) (ξ := (Option Addr) × Nat × Nat) (fun s369 u370 => [(3, .pointer (some ⟨b5, 0, none⟩)), (7, .pointer (some ⟨b15, 0, none⟩)), (10, .pointer (some ⟨u29, 0, none⟩))]) (fun s369 u370 => [blkE b5 28 [.slice A_p01 n_p01 c_p01, .slice A_p02 n_p02 c_p02, .slice A_p03 n_p03 c_p03, .slice A_p04 n_p04 c_p04, .slice A_p05 n_p05 c_p05, .int .i64 p0.Gap], blkE b15 39 [.int .i64 r13.1.ID, .int .i64 r13.1.Household, .int .i64 r13.1.When.From, .int .i64 r13.1.When.To, .slice u14.1 u14.2.1 u14.2.2, .int .i64 r13.1.Total], twoE (ownE 66 5 encApiItem u14.1 u14.2.1 u14.2.2 r13.1.Items) (ownE 66 5 encApiItem u370.1 u370.2.2 u370.2.1 s369.2.2.2.2.1), blkE u29 39 [.int .i64 s369.1, .int .i64 s369.2.1, .int .i64 s369.2.2.1, .int .i64 s369.2.2.2.1, .slice u370.1 u370.2.2 u370.2.1, .int .i64 s369.2.2.2.2.2]]) ?_ ?_
   ·refine sr ?_
    refine la 1 ((11, .int .i64 _) :: _) rfl ?_
    refine nn ?_
    refine cm_block ?_
    refine cm_loop (σ := Int × Int × Int × Int × Int × (List ApiItem) × Int × Int) (ξ := (Option Addr) × Nat × Nat) (fun s591 u592 => [(2, .slice A_p2 n_p2 c_p2), (3, .pointer (some ⟨b5, 0, none⟩)), (7, .pointer (some ⟨b15, 0, none⟩)), (9, .int .i64 s591.1), (10, .pointer (some ⟨u29, 0, none⟩)), (11, .int .i64 s591.2.2.2.2.2.2.2)]) (fun s591 u592 => [blkE b5 28 [.slice A_p01 n_p01 c_p01, .slice A_p02 n_p02 c_p02, .slice A_p03 n_p03 c_p03, .slice A_p04 n_p04 c_p04, .slice A_p05 n_p05 c_p05, .int .i64 p0.Gap], blkE b15 39 [.int .i64 r13.1.ID, .int .i64 r13.1.Household, .int .i64 r13.1.When.From, .int .i64 r13.1.When.To, .slice u14.1 u14.2.1 u14.2.2, .int .i64 r13.1.Total], twoE (ownE 66 5 encApiItem u14.1 u14.2.1 u14.2.2 r13.1.Items) (ownE 66 5 encApiItem u592.1 u592.2.2 u592.2.1 s591.2.2.2.2.2.1), blkE u29 39 [.int .i64 s591.2.1, .int .i64 s591.2.2.1, .int .i64 s591.2.2.2.1, .int .i64 s591.2.2.2.2.1, .slice u592.1 u592.2.2 u592.2.1, .int .i64 s591.2.2.2.2.2.2.1]]) (u14.1, u14.2.2, u14.2.1) ?_ ?_ ?_
    ·exact sq
    ·exact sh [0, 1, 2, 3]
    intro s591 u592
    refine cm_seq ?_
    refine sr ?_
    refine la 2 ((42, .slice _ _ _) :: (41, .int .i64 _) :: _) rfl ?_
    refine v_ 43 (fun _ _ => op_lenN rfl (by kernel_rfl) hz_p2.2.2) ?_
    refine la 1 ((44, .bool _) :: _) rfl ?_
    refine nn ?_
    refine cm_cond (by kernel_rfl) rfl (fun h593 => ?_) (fun h593 => ?_)
    ·refine sk ?_
     refine cm_join (σ := Int × Int × Int × Int × Int × (List ApiItem) × Int) (ξ := (Option Addr) × Nat × Nat) (fun s646 u647 => [(2, .slice A_p2 n_p2 c_p2), (3, .pointer (some ⟨b5, 0, none⟩)), (7, .pointer (some ⟨b15, 0, none⟩)), (9, .int .i64 s646.1), (10, .pointer (some ⟨u29, 0, none⟩)), (11, .int .i64 s591.2.2.2.2.2.2.2)]) (fun s646 u647 => [blkE b5 28 [.slice A_p01 n_p01 c_p01, .slice A_p02 n_p02 c_p02, .slice A_p03 n_p03 c_p03, .slice A_p04 n_p04 c_p04, .slice A_p05 n_p05 c_p05, .int .i64 p0.Gap], blkE b15 39 [.int .i64 r13.1.ID, .int .i64 r13.1.Household, .int .i64 r13.1.When.From, .int .i64 r13.1.When.To, .slice u14.1 u14.2.1 u14.2.2, .int .i64 r13.1.Total], twoE (ownE 66 5 encApiItem u14.1 u14.2.1 u14.2.2 r13.1.Items) (ownE 66 5 encApiItem u647.1 u647.2.2 u647.2.1 s646.2.2.2.2.2.1), blkE u29 39 [.int .i64 s646.2.1, .int .i64 s646.2.2.1, .int .i64 s646.2.2.2.1, .int .i64 s646.2.2.2.2.1, .slice u647.1 u647.2.2 u647.2.1, .int .i64 s646.2.2.2.2.2.2]]) ?_ ?_
     ·refine cm_block ?_
      refine cm_seq ?_
      refine cm_ck (fun h648 => ?_)
      refine cm_ck (fun h649 => ?_)
      refine cm_bind fun r650 h651 => ?_
      refine cm_held (ξ := Nat × (Option Addr) × Nat × Nat) (fun u673 => [(2, .slice A_p2 n_p2 c_p2), (3, .pointer (some ⟨b5, 0, none⟩)), (7, .pointer (some ⟨b15, 0, none⟩)), (9, .int .i64 s591.1), (10, .pointer (some ⟨u29, 0, none⟩)), (11, .int .i64 s591.2.2.2.2.2.2.2), (12, .pointer (some ⟨u673.1, 0, none⟩)), (13, .int .i64 r650.2)]) (fun u673 => [blkE b5 28 [.slice A_p01 n_p01 c_p01, .slice A_p02 n_p02 c_p02, .slice A_p03 n_p03 c_p03, .slice A_p04 n_p04 c_p04, .slice A_p05 n_p05 c_p05, .int .i64 p0.Gap], blkE b15 39 [.int .i64 r13.1.ID, .int .i64 r13.1.Household, .int .i64 r13.1.When.From, .int .i64 r13.1.When.To, .slice u14.1 u14.2.1 u14.2.2, .int .i64 r13.1.Total], twoE (ownE 66 5 encApiItem u14.1 u14.2.1 u14.2.2 r13.1.Items) (ownE 66 5 encApiItem u592.1 u592.2.2 u592.2.1 s591.2.2.2.2.2.1), blkE u29 39 [.int .i64 s591.2.1, .int .i64 s591.2.2.1, .int .i64 s591.2.2.2.1, .int .i64 s591.2.2.2.2.1, .slice u592.1 u592.2.2 u592.2.1, .int .i64 s591.2.2.2.2.2.2.1], blkE u673.1 39 [.int .i64 r650.1.ID, .int .i64 r650.1.Household, .int .i64 r650.1.When.From, .int .i64 r650.1.When.To, .slice u673.2.1 u673.2.2.1 u673.2.2.2, .int .i64 r650.1.Total], ownE 66 5 encApiItem u673.2.1 u673.2.2.1 u673.2.2.2 r650.1.Items]) [blkE b5 28 [.slice A_p01 n_p01 c_p01, .slice A_p02 n_p02 c_p02, .slice A_p03 n_p03 c_p03, .slice A_p04 n_p04 c_p04, .slice A_p05 n_p05 c_p05, .int .i64 p0.Gap], blkE b15 39 [.int .i64 r13.1.ID, .int .i64 r13.1.Household, .int .i64 r13.1.When.From, .int .i64 r13.1.When.To, .slice u14.1 u14.2.1 u14.2.2, .int .i64 r13.1.Total], twoE (ownE 66 5 encApiItem u14.1 u14.2.1 u14.2.2 r13.1.Items) (ownE 66 5 encApiItem u592.1 u592.2.2 u592.2.1 s591.2.2.2.2.2.1), blkE u29 39 [.int .i64 s591.2.1, .int .i64 s591.2.2.1, .int .i64 s591.2.2.2.1, .int .i64 s591.2.2.2.2.1, .slice u592.1 u592.2.2 u592.2.1, .int .i64 s591.2.2.2.2.2.2.1]] 18 (by kernel_rfl) (by rfl) (hsub [0, 1, 2, 3] (by kernel_rfl) (by rfl)) ?_ ?_
      ·intro w675 c676
       refine wh_take 0 48 rfl (by kernel_rfl) (by kernel_rfl) (fun w2 c2 => (op_loadR [.int .i64 _, .int .i64 _, .int .i64 _, .int .i64 _, .slice _ _ _, .int .i64 _] rfl (by kernel_rfl) (c2.cells 3 rfl rfl))) (hsub [0, 1, 2, 3] (by kernel_rfl) rfl _ c676) ?_
       refine wh_take 1 49 rfl (by kernel_rfl) (by kernel_rfl) (fun w2 c2 => (op_move (v := .slice _ _ _) rfl)) (hsub [0, 1, 2, 3] (by kernel_rfl) rfl _ c676) ?_
       refine wh_take 2 50 rfl (by kernel_rfl) (by kernel_rfl) (fun w2 c2 => (op_move (v := .int .i64 _) rfl)) (hsub [0, 1, 2, 3] (by kernel_rfl) rfl _ c676) ?_
       refine wh_take 3 51 rfl (by kernel_rfl) (by kernel_rfl) (fun w2 c2 => (op_indexA 2 rfl rfl (by kernel_rfl) ((hr_p2.old c2).addr h648.1 h648.2) hz_p2.2.2 h648.1 h648.2)) (hsub [0, 1, 2, 3] (by kernel_rfl) rfl _ c676) ?_
       refine wh_take 4 52 rfl (by kernel_rfl) (by kernel_rfl) (fun w2 c2 => (op_indexArr (len := 2) (sz := 1) (k := ao A_p2 + Int.toNat s591.2.2.2.2.2.2.2 * 2) 0 rfl rfl rfl (by kernel_rfl) (by kernel_rfl) rfl)) (hsub [0, 1, 2, 3] (by kernel_rfl) rfl _ c676) ?_
       refine wh_take 5 53 rfl (by kernel_rfl) (by kernel_rfl) (fun w2 c2 => (op_load (v := .int .i64 ((ix p2 s591.2.2.2.2.2.2.2).E0)) rfl (by kernel_rfl) ((hr_p2.old c2).cell0 h648.1 h648.2 rfl))) (hsub [0, 1, 2, 3] (by kernel_rfl) rfl _ c676) ?_
       refine wh_take 6 54 rfl (by kernel_rfl) (by kernel_rfl) (fun w2 c2 => (op_move (v := .slice _ _ _) rfl)) (hsub [0, 1, 2, 3] (by kernel_rfl) rfl _ c676) ?_
       refine wh_take 7 55 rfl (by kernel_rfl) (by kernel_rfl) (fun w2 c2 => (op_move (v := .int .i64 _) rfl)) (hsub [0, 1, 2, 3] (by kernel_rfl) rfl _ c676) ?_
       refine wh_take 8 56 rfl (by kernel_rfl) (by kernel_rfl) (fun w2 c2 => (op_indexA 2 rfl rfl (by kernel_rfl) ((hr_p2.old c2).addr h649.1 h649.2) hz_p2.2.2 h649.1 h649.2)) (hsub [0, 1, 2, 3] (by kernel_rfl) rfl _ c676) ?_
       refine wh_take 9 57 rfl (by kernel_rfl) (by kernel_rfl) (fun w2 c2 => (op_indexArr (len := 2) (sz := 1) (k := ao A_p2 + Int.toNat s591.2.2.2.2.2.2.2 * 2 + 1) 1 rfl rfl rfl (by kernel_rfl) (by kernel_rfl) rfl)) (hsub [0, 1, 2, 3] (by kernel_rfl) rfl _ c676) ?_
       refine wh_take 10 58 rfl (by kernel_rfl) (by kernel_rfl) (fun w2 c2 => (op_load (v := .int .i64 ((ix p2 s591.2.2.2.2.2.2.2).E1)) rfl (by kernel_rfl) ((hr_p2.old c2).cell (j := 1) h649.1 h649.2 rfl))) (hsub [0, 1, 2, 3] (by kernel_rfl) rfl _ c676) ?_
       refine wh_ready [11, 15] (by kernel_rfl) rfl ⟨?_, ?_, trivial⟩
       ·refine ws_call 59 rfl (by kernel_rfl) (op_call (by kernel_rfl)) (m_bill_Credit_ok N _ (ApiBill.mk s591.2.1 s591.2.2.1 (ApiWindow.mk s591.2.2.2.1 s591.2.2.2.2.1) s591.2.2.2.2.2.1 s591.2.2.2.2.2.2.1) ((ix p2 s591.2.2.2.2.2.2.2).E0) ((ix p2 s591.2.2.2.2.2.2.2).E1) u592.1 u592.2.2 u592.2.1 (c676.own2 2 rfl encApiItem_len) (c676.ownZ2 2 rfl) r650 h651) ?_
        rintro x w678 ⟨u677, rfl, c679⟩
        replace c679 := c676.call c679
        refine ⟨_, rfl, (hsub [1, 2, 3, 4] (by kernel_rfl) rfl _ c679), ?_⟩
        refine wh_strong (Hs w0 [ownE 66 5 encApiItem u677.1 u677.2.1 u677.2.2 r650.1.Items, blkE b5 28 [.slice A_p01 n_p01 c_p01, .slice A_p02 n_p02 c_p02, .slice A_p03 n_p03 c_p03, .slice A_p04 n_p04 c_p04, .slice A_p05 n_p05 c_p05, .int .i64 p0.Gap], blkE b15 39 [.int .i64 r13.1.ID, .int .i64 r13.1.Household, .int .i64 r13.1.When.From, .int .i64 r13.1.When.To, .slice u14.1 u14.2.1 u14.2.2, .int .i64 r13.1.Total], twoE (ownE 66 5 encApiItem u14.1 u14.2.1 u14.2.2 r13.1.Items) (ownE 66 5 encApiItem u592.1 u592.2.2 u592.2.1 s591.2.2.2.2.2.1), blkE u29 39 [.int .i64 s591.2.1, .int .i64 s591.2.2.1, .int .i64 s591.2.2.2.1, .int .i64 s591.2.2.2.2.1, .slice u592.1 u592.2.2 u592.2.1, .int .i64 s591.2.2.2.2.2.2.1]]) (fun w2 c2 => hsub [1, 2, 3, 4] (by kernel_rfl) rfl w2 c2) ?_
        refine wh_take 12 47 rfl (by kernel_rfl) (by kernel_rfl) (fun w2 c2 => (op_move (v := .tuple _) rfl)) (hsub [0, 1, 2, 3, 4] (by kernel_rfl) rfl _ c679) ?_
        refine wh_take 13 60 rfl (by kernel_rfl) (by kernel_rfl) (fun w2 c2 => (op_extract (v := .agg _) rfl rfl)) (hsub [0, 1, 2, 3, 4] (by kernel_rfl) rfl _ c679) ?_
        refine wh_take 14 61 rfl (by kernel_rfl) (by kernel_rfl) (fun w2 c2 => (op_extract (v := .int .i64 _) rfl rfl)) (hsub [0, 1, 2, 3, 4] (by kernel_rfl) rfl _ c679) ?_
        refine wh_ready [15] (by kernel_rfl) rfl ⟨?_, trivial⟩
        refine ws_alloc 12 [.int .i64 0, .int .i64 0, .int .i64 0, .int .i64 0, .slice none 0 0, .int .i64 0] (v := .agg #[.int .i64 0, .int .i64 0, .int .i64 0, .int .i64 0, .slice none 0 0, .int .i64 0]) rfl (by kernel_rfl) (by kernel_rfl) rfl c679 ?_
        intro b680 w681 c682
        refine ⟨(hsub [1, 2, 3, 4, 5] (by kernel_rfl) rfl _ c682), ?_⟩
        refine wh_ready [16] (by kernel_rfl) rfl ⟨?_, trivial⟩
        refine ws_storeA 0 [.int .i64 _, .int .i64 _, .int .i64 _, .int .i64 _, .slice _ _ _, .int .i64 _] [_, _, _, _, _, _] rfl (by kernel_rfl) rfl rfl (by kernel_rfl) rfl rfl (by kernel_rfl) rfl (H' := [blkE _ _ [_, _, _, _, _, _], _, _, _, _, _]) rfl c682 ?_
        intro w683 c684
        refine ⟨(hsub [1, 2, 3, 4, 5] (by kernel_rfl) rfl _ c684), ?_⟩
        refine wh_take 17 13 rfl (by kernel_rfl) (by kernel_rfl) (fun w2 c2 => (op_assign (v := .int .i64 _) rfl)) (hsub [1, 2, 3, 4, 5] (by kernel_rfl) rfl _ c684) ?_
        exact wh_done (b680, u677.1, u677.2.1, u677.2.2) (by kernel_rfl) sq (hsub [2, 3, 4, 5, 0, 1] (by kernel_rfl) rfl _ c684)
       ·refine ws_alloc 12 [.int .i64 0, .int .i64 0, .int .i64 0, .int .i64 0, .slice none 0 0, .int .i64 0] (v := .agg #[.int .i64 0, .int .i64 0, .int .i64 0, .int .i64 0, .slice none 0 0, .int .i64 0]) rfl (by kernel_rfl) (by kernel_rfl) rfl c676 ?_
        intro b685 w686 c687
        refine ⟨(hsub [1, 2, 3, 4] (by kernel_rfl) rfl _ c687), ?_⟩
        refine wh_ready [11] (by kernel_rfl) rfl ⟨?_, trivial⟩
        refine ws_call 59 rfl (by kernel_rfl) (op_call (by kernel_rfl)) (m_bill_Credit_ok N _ (ApiBill.mk s591.2.1 s591.2.2.1 (ApiWindow.mk s591.2.2.2.1 s591.2.2.2.2.1) s591.2.2.2.2.2.1 s591.2.2.2.2.2.2.1) ((ix p2 s591.2.2.2.2.2.2.2).E0) ((ix p2 s591.2.2.2.2.2.2.2).E1) u592.1 u592.2.2 u592.2.1 (c687.own2 3 rfl encApiItem_len) (c687.ownZ2 3 rfl) r650 h651) ?_
        rintro x w689 ⟨u688, rfl, c690⟩
        replace c690 := c687.call c690
        refine ⟨_, rfl, (hsub [2, 3, 4, 5] (by kernel_rfl) rfl _ c690), ?_⟩
        refine wh_strong (Hs w0 [ownE 66 5 encApiItem u688.1 u688.2.1 u688.2.2 r650.1.Items, blkE b5 28 [.slice A_p01 n_p01 c_p01, .slice A_p02 n_p02 c_p02, .slice A_p03 n_p03 c_p03, .slice A_p04 n_p04 c_p04, .slice A_p05 n_p05 c_p05, .int .i64 p0.Gap], blkE b15 39 [.int .i64 r13.1.ID, .int .i64 r13.1.Household, .int .i64 r13.1.When.From, .int .i64 r13.1.When.To, .slice u14.1 u14.2.1 u14.2.2, .int .i64 r13.1.Total], twoE (ownE 66 5 encApiItem u14.1 u14.2.1 u14.2.2 r13.1.Items) (ownE 66 5 encApiItem u592.1 u592.2.2 u592.2.1 s591.2.2.2.2.2.1), blkE u29 39 [.int .i64 s591.2.1, .int .i64 s591.2.2.1, .int .i64 s591.2.2.2.1, .int .i64 s591.2.2.2.2.1, .slice u592.1 u592.2.2 u592.2.1, .int .i64 s591.2.2.2.2.2.2.1]]) (fun w2 c2 => hsub [1, 2, 3, 4] (by kernel_rfl) rfl w2 c2) ?_
        refine wh_take 12 47 rfl (by kernel_rfl) (by kernel_rfl) (fun w2 c2 => (op_move (v := .tuple _) rfl)) (hsub [0, 2, 3, 4, 5] (by kernel_rfl) rfl _ c690) ?_
        refine wh_take 13 60 rfl (by kernel_rfl) (by kernel_rfl) (fun w2 c2 => (op_extract (v := .agg _) rfl rfl)) (hsub [0, 2, 3, 4, 5] (by kernel_rfl) rfl _ c690) ?_
        refine wh_take 14 61 rfl (by kernel_rfl) (by kernel_rfl) (fun w2 c2 => (op_extract (v := .int .i64 _) rfl rfl)) (hsub [0, 2, 3, 4, 5] (by kernel_rfl) rfl _ c690) ?_
        refine wh_ready [16] (by kernel_rfl) rfl ⟨?_, trivial⟩
        refine ws_storeA 1 [.int .i64 _, .int .i64 _, .int .i64 _, .int .i64 _, .slice _ _ _, .int .i64 _] [_, _, _, _, _, _] rfl (by kernel_rfl) rfl rfl (by kernel_rfl) rfl rfl (by kernel_rfl) rfl (H' := [_, blkE _ _ [_, _, _, _, _, _], _, _, _, _]) rfl c690 ?_
        intro w691 c692
        refine ⟨(hsub [0, 2, 3, 4, 5] (by kernel_rfl) rfl _ c692), ?_⟩
        refine wh_take 17 13 rfl (by kernel_rfl) (by kernel_rfl) (fun w2 c2 => (op_assign (v := .int .i64 _) rfl)) (hsub [0, 2, 3, 4, 5] (by kernel_rfl) rfl _ c692) ?_
        exact wh_done (b685, u688.1, u688.2.1, u688.2.2) (by kernel_rfl) sq (hsub [2, 3, 4, 5, 1, 0] (by kernel_rfl) rfl _ c692)
      intro u673
      refine xm_next ?_
      refine cm_seq ?_
      refine sr ?_
      refine la 2 ((63, .bool _) :: (62, .int .i64 _) :: _) rfl ?_
      refine nn ?_
      refine cm_cond (by kernel_rfl) rfl (fun h693 => ?_) (fun h693 => ?_)
      ·refine cm_exit ?_
       refine xm_thenE ?_
       refine xm_here ?_
       exact xm_lnext (u592.1, u592.2.1, u592.2.2) sq (sh [0, 1, 2, 3])
      ·refine sk ?_
       refine sr ?_
       refine la 3 ((66, .int .i64 _) :: (65, .slice _ _ _) :: (64, .int .i64 _) :: _) rfl ?_
       refine lm_ck (fun h694 => ?_)
       refine v_ 67 (fun _ c1 => oI 2 rfl rfl ((hr_p2.old c1).addr h694.1 h694.2) hz_p2.2.2 h694) ?_
       refine v_ 68 (fun _ _ => op_indexArr (len := 2) (sz := 1) (k := ao A_p2 + Int.toNat s591.2.2.2.2.2.2.2 * 2 + 1) 1 rfl rfl rfl (by kernel_rfl) (by kernel_rfl) rfl) ?_
       refine v_ 69 (fun _ c1 => oL (v := .int .i64 ((ix p2 s591.2.2.2.2.2.2.2).E1)) ((hr_p2.old c1).cell (j := 1) h694.1 h694.2 rfl)) ?_
       refine lm_ck (fun h695 => ?_)
       refine v_ 70 (fun _ _ => op_sub rfl rfl h695) ?_
       refine la 1 ((9, .int .i64 _) :: _) rfl ?_
       refine nn ?_
       refine sr ?_
       refine v_ 71 (fun _ c1 => oR [.int .i64 _, .int .i64 _, .int .i64 _, .int .i64 _, .slice _ _ _, .int .i64 _] (c1.cells 4 rfl rfl)) ?_
       refine lm_storeA 3 [.int .i64 _, .int .i64 _, .int .i64 _, .int .i64 _, .slice _ _ _, .int .i64 _] [_, _, _, _, _, _] (H' := [_, _, _, blkE _ _ [_, _, _, _, _, _], _, _]) (by kernel_rfl) rfl rfl (by kernel_rfl) rfl rfl (by kernel_rfl) rfl rfl ?_
       refine nn ?_
       refine cm_seq ?_
       refine cm_ck (fun h696 => ?_)
       refine cm_cutE [(89, .bool (((decide ((ix p2 s591.2.2.2.2.2.2.2).E1 < 1)) || (decide (r650.1.Total ≠ (s591.1 - ((ix p2 s591.2.2.2.2.2.2.2).E1))))) || (decide ((List.length r650.1.Items : Int) = 0))))] ?_ ?_
       ·refine qa 2 ((73, .int .i64 _) :: (72, .slice _ _ _) :: _) rfl ?_
        refine q_ 74 (fun _ c1 => oI 2 rfl rfl ((hr_p2.old c1).addr h696.1 h696.2) hz_p2.2.2 h696) ?_
        refine q_ 75 (fun _ _ => op_indexArr (len := 2) (sz := 1) (k := ao A_p2 + Int.toNat s591.2.2.2.2.2.2.2 * 2 + 1) 1 rfl rfl rfl (by kernel_rfl) (by kernel_rfl) rfl) ?_
        refine q_ 76 (fun _ c1 => oL (v := .int .i64 ((ix p2 s591.2.2.2.2.2.2.2).E1)) ((hr_p2.old c1).cell (j := 1) h696.1 h696.2 rfl)) ?_
        refine qd 77 (fun _ _ => op_lss rfl rfl) (fun h697 => ?_) (fun h697 => ?_)
        ·refine qa 12 ((89, .bool true) :: (88, undef) :: (87, undef) :: (86, undef) :: (85, undef) :: (84, .bool true) :: (83, .bool true) :: (82, undef) :: (81, undef) :: (80, undef) :: (79, undef) :: (78, .bool true) :: _) rfl ?_
         exact leaf_q (sub_out 18 _ rfl (by kernel_rfl) ⟨(congrArg Value.bool (by rw [decide_eq_true h697] <;> rfl)), trivial⟩)
        ·refine qa 1 ((78, .bool false) :: _) rfl ?_
         refine q_ 79 (fun _ _ => oF 5 5 rfl) ?_
         refine q_ 80 (fun _ c1 => oL (c1.cell 3 (u := .int .i64 _) rfl rfl)) ?_
         refine qa 1 ((81, .int .i64 _) :: _) rfl ?_
         refine qd 82 (fun _ _ => op_neq rfl rfl) (fun h698 => ?_) (fun h698 => ?_)
         ·refine qa 7 ((89, .bool true) :: (88, undef) :: (87, undef) :: (86, undef) :: (85, undef) :: (84, .bool true) :: (83, .bool true) :: _) rfl ?_
          exact leaf_q (sub_out 18 _ rfl (by kernel_rfl) ⟨(congrArg Value.bool (by rw [decide_eq_false h697, decide_eq_true h698] <;> rfl)), trivial⟩)
         ·refine qa 2 ((84, .bool false) :: (83, .bool false) :: _) rfl ?_
          refine q_ 85 (fun _ _ => oF 4 4 rfl) ?_
          refine q_ 86 (fun _ c1 => oL (c1.cell 3 (u := .slice _ _ _) rfl rfl)) ?_
          refine q_ 87 (fun _ c1 => op_lenN rfl (by kernel_rfl) (c1.ownZ 5 rfl).2.2) ?_
          refine qa 2 ((89, .bool _) :: (88, .bool _) :: _) rfl ?_
          exact leaf_q (sub_out 18 _ rfl (by kernel_rfl) ⟨(congrArg Value.bool (by rw [decide_eq_false h697, decide_eq_false h698] <;> rfl)), trivial⟩)
       refine xm_next ?_
       refine cm_condB (by kernel_rfl) rfl (fun h699 => ?_) (fun h699 => ?_)
       ·refine sr ?_
        refine la 1 ((6, .bool false) :: _) rfl ?_
        refine nn ?_
        refine cm_ret ?_
        refine xm_inR ?_
        refine xm_lret ?_
        refine xm_lret ?_
        refine xm_inR ?_
        refine xm_lret ?_
        exact xm_retT rfl (by kernel_rfl) (show _ = Value.bool false from rfl) fun w1 c1 => ⟨(), rfl, hsub [] (by kernel_rfl) rfl w1 c1⟩
       ·refine cm_skip ?_
        refine xm_inN ?_
        refine xm_hsub (hs_two 2 5 [0, 1, 3, 4]) ?_
        exact xm_lnext (u673.2.1, u673.2.2.2, u673.2.2.1) sq (sh [1, 2, 0, 3])
     intro s646 u647
     refine cm_region ?_
     refine la 1 ((45, .int .i64 _) :: _) rfl ?_
     refine lm_ck (fun h700 => ?_)
     refine v_ 46 (fun _ _ => op_add rfl rfl h700) ?_
     refine la 1 ((11, .int .i64 _) :: _) rfl ?_
     refine lm_nil ?_
     exact xm_lnext (u647.1, u647.2.1, u647.2.2) sq (sh [0, 1, 2, 3])
    ·refine cm_exit ?_
     refine xm_thenE ?_
     refine xm_lexit ?_
     refine xm_here ?_
     exact xm_lnext (u592.1, u592.2.1, u592.2.2) sq (sh [0, 1, 2, 3])
   intro s369 u370
   refine cm_seq ?_
   refine sr ?_
   refine v_ 90 (fun _ c1 => oR [.slice _ _ _, .slice _ _ _, .slice _ _ _, .slice _ _ _, .slice _ _ _, .int .i64 _] (c1.cells 0 rfl rfl)) ?_
   refine v_ 91 (fun _ c1 => oR [.int .i64 _, .int .i64 _, .int .i64 _, .int .i64 _, .slice _ _ _, .int .i64 _] (c1.cells 3 rfl rfl)) ?_
   refine lm_call 92 (V := (fun (r : Int) (_u : Unit) => .int .i64 r)) (HR := (fun (_r : Int) (_u : Unit) => [])) (by kernel_rfl) (fun w1 => op_call (by kernel_rfl)) (fun r1 hr1 w1 c1 => m_bill_Right_ok N w1 p0 (ApiBill.mk s369.1 s369.2.1 (ApiWindow.mk s369.2.2.1 s369.2.2.2.1) s369.2.2.2.2.1 s369.2.2.2.2.2) A_p01 n_p01 c_p01 A_p02 n_p02 c_p02 A_p03 n_p03 c_p03 A_p04 n_p04 c_p04 A_p05 n_p05 c_p05 u370.1 u370.2.2 u370.2.1 (hr_p01.old c1) hz_p01 (hr_p02.old c1) hz_p02 (hr_p03.old c1) hz_p03 (hr_p04.old c1) hz_p04 (hr_p05.old c1) hz_p05 (c1.own2 2 rfl encApiItem_len) (c1.ownZ2 2 rfl) r1 hr1) ?_
   intro r701 u702
   refine la 1 ((93, .bool _) :: _) rfl ?_
   refine nn ?_
   refine cm_cond (by kernel_rfl) rfl (fun h703 => ?_) (fun h703 => ?_)
   ·refine sr ?_
    refine la 1 ((6, .bool false) :: _) rfl ?_
    refine nn ?_
    refine cm_ret ?_
    refine xm_thenR ?_
    exact xm_retT rfl (by kernel_rfl) (show _ = Value.bool false from rfl) fun w1 c1 => ⟨(), rfl, hsub [] (by kernel_rfl) rfl w1 c1⟩
   ·refine sk ?_
    refine sr ?_
    refine la 1 ((14, .int .i64 _) :: _) rfl ?_
    refine nn ?_
    refine cm_join (σ := Int) (ξ := Unit) (fun s746 u747 => [(10, .pointer (some ⟨u29, 0, none⟩)), (14, .int .i64 s746)]) (fun s746 u747 => [blkE u29 39 [.int .i64 s369.1, .int .i64 s369.2.1, .int .i64 s369.2.2.1, .int .i64 s369.2.2.2.1, .slice u370.1 u370.2.2 u370.2.1, .int .i64 s369.2.2.2.2.2], twoE (ownE 66 5 encApiItem u14.1 u14.2.1 u14.2.2 r13.1.Items) (ownE 66 5 encApiItem u370.1 u370.2.2 u370.2.1 s369.2.2.2.2.1)]) ?_ ?_
    ·refine sr ?_
     refine la 1 ((15, .int .i64 _) :: _) rfl ?_
     refine nn ?_
     refine cm_block ?_
     refine cm_loop (σ := Int × Int) (ξ := Unit) (fun s776 u777 => [(7, .pointer (some ⟨b15, 0, none⟩)), (10, .pointer (some ⟨u29, 0, none⟩)), (14, .int .i64 s776.1), (15, .int .i64 s776.2)]) (fun s776 u777 => [blkE b15 39 [.int .i64 r13.1.ID, .int .i64 r13.1.Household, .int .i64 r13.1.When.From, .int .i64 r13.1.When.To, .slice u14.1 u14.2.1 u14.2.2, .int .i64 r13.1.Total], twoE (ownE 66 5 encApiItem u14.1 u14.2.1 u14.2.2 r13.1.Items) (ownE 66 5 encApiItem u370.1 u370.2.2 u370.2.1 s369.2.2.2.2.1), blkE u29 39 [.int .i64 s369.1, .int .i64 s369.2.1, .int .i64 s369.2.2.1, .int .i64 s369.2.2.2.1, .slice u370.1 u370.2.2 u370.2.1, .int .i64 s369.2.2.2.2.2]]) () ?_ ?_ ?_
     ·exact sq
     ·exact sh [1, 2, 3]
     intro s776 u777
     refine cm_seq ?_
     refine sr ?_
     refine la 1 ((94, .int .i64 _) :: _) rfl ?_
     refine v_ 95 (fun _ _ => oF 4 4 rfl) ?_
     refine v_ 96 (fun _ c1 => oL (c1.cell 0 (u := .slice _ _ _) rfl rfl)) ?_
     refine v_ 97 (fun _ c1 => op_lenN rfl (by kernel_rfl) (c1.ownZ1 1 rfl).2.2) ?_
     refine la 1 ((98, .bool _) :: _) rfl ?_
     refine nn ?_
     refine cm_cond (by kernel_rfl) rfl (fun h778 => ?_) (fun h778 => ?_)
     ·refine sk ?_
      refine cm_join (σ := Int) (ξ := Unit) (fun s783 u784 => [(7, .pointer (some ⟨b15, 0, none⟩)), (10, .pointer (some ⟨u29, 0, none⟩)), (14, .int .i64 s783), (15, .int .i64 s776.2)]) (fun s783 u784 => [blkE b15 39 [.int .i64 r13.1.ID, .int .i64 r13.1.Household, .int .i64 r13.1.When.From, .int .i64 r13.1.When.To, .slice u14.1 u14.2.1 u14.2.2, .int .i64 r13.1.Total], twoE (ownE 66 5 encApiItem u14.1 u14.2.1 u14.2.2 r13.1.Items) (ownE 66 5 encApiItem u370.1 u370.2.2 u370.2.1 s369.2.2.2.2.1), blkE u29 39 [.int .i64 s369.1, .int .i64 s369.2.1, .int .i64 s369.2.2.1, .int .i64 s369.2.2.2.1, .slice u370.1 u370.2.2 u370.2.1, .int .i64 s369.2.2.2.2.2]]) ?_ ?_
      ·refine cm_block ?_
       refine sr ?_
       refine v_ 101 (fun _ _ => oF 4 4 rfl) ?_
       refine v_ 102 (fun _ c1 => oL (c1.cell 0 (u := .slice _ _ _) rfl rfl)) ?_
       refine la 1 ((103, .int .i64 _) :: _) rfl ?_
       refine lm_ck (fun h785 => ?_)
       refine v_ 104 (fun _ c1 => oI 5 rfl rfl ((c1.own1 1 rfl encApiItem_len).addr h785.1 h785.2) (c1.ownZ1 1 rfl).2.2 h785) ?_
       refine v_ 105 (fun _ _ => op_field0 rfl (by kernel_rfl)) ?_
       refine v_ 106 (fun _ c1 => oL (v := .int .i64 ((ix r13.1.Items s776.2).Kind)) ((c1.own1 1 rfl encApiItem_len).cell0 h785.1 h785.2 rfl)) ?_
       refine la 1 ((107, .bool _) :: _) rfl ?_
       refine nn ?_
       refine cm_cond (by kernel_rfl) rfl (fun h786 => ?_) (fun h786 => ?_)
       ·refine cm_region ?_
        refine la 1 ((108, .int .i64 _) :: _) rfl ?_
        refine v_ 109 (fun _ _ => oF 4 4 rfl) ?_
        refine v_ 110 (fun _ c1 => oL (c1.cell 0 (u := .slice _ _ _) rfl rfl)) ?_
        refine la 1 ((111, .int .i64 _) :: _) rfl ?_
        refine lm_ck (fun h787 => ?_)
        refine v_ 112 (fun _ c1 => oI 5 rfl rfl ((c1.own1 1 rfl encApiItem_len).addr h787.1 h787.2) (c1.ownZ1 1 rfl).2.2 h787) ?_
        refine v_ 113 (fun _ _ => op_field (m := 4) rfl (by kernel_rfl)) ?_
        refine v_ 114 (fun _ c1 => oL (v := .int .i64 ((ix r13.1.Items s776.2).Amount)) ((c1.own1 1 rfl encApiItem_len).cell (j := 4) h787.1 h787.2 rfl)) ?_
        refine lm_ck (fun h788 => ?_)
        refine v_ 115 (fun _ _ => op_add rfl rfl h788) ?_
        refine la 1 ((14, .int .i64 _) :: _) rfl ?_
        refine lm_nil ?_
        refine xm_inN ?_
        exact xm_lnext () sq (sh [0, 1, 2])
       ·refine cm_skip ?_
        refine xm_inN ?_
        exact xm_lnext () sq (sh [0, 1, 2])
      intro s783 u784
      refine cm_region ?_
      refine la 1 ((99, .int .i64 _) :: _) rfl ?_
      refine lm_ck (fun h789 => ?_)
      refine v_ 100 (fun _ _ => op_add rfl rfl h789) ?_
      refine la 1 ((15, .int .i64 _) :: _) rfl ?_
      refine lm_nil ?_
      exact xm_lnext () sq (sh [0, 1, 2])
     ·refine cm_exit ?_
      refine xm_thenE ?_
      refine xm_lexit ?_
      refine xm_here ?_
      exact xm_lnext () sq (sh [2, 1])
    intro s746 u747
    refine cm_seq ?_
    refine cm_callIf fun r790 h791 => ?_
    refine cm_cutE [(6, .bool ((decide (s746 ≤ s369.2.2.2.2.2)) && r790))] ?_ ?_
    ·refine q_ 116 (fun _ _ => oF 5 5 rfl) ?_
     refine q_ 117 (fun _ c1 => oL (c1.cell 0 (u := .int .i64 _) rfl rfl)) ?_
     refine qa 1 ((118, .int .i64 _) :: _) rfl ?_
     refine qd 119 (fun _ _ => op_geq rfl rfl) (fun h792 => ?_) (fun h792 => ?_)
     ·refine qa 1 ((120, .bool true) :: _) rfl ?_
      refine wq_call 121 (by kernel_rfl) (fun w1 c1 => op_call (by kernel_rfl)) (fun w1 c1 => (m_recyclinglaw54_awake_ok N w1  (hs_tab ht c1) r790 (h791 (by rw [decide_eq_true h792] <;> rfl))).mono (fun _ _ ⟨_, hx, hu⟩ => ⟨hx, c1.call hu⟩)) ?_
      refine qa 2 ((6, .bool _) :: (122, .bool _) :: _) rfl ?_
      exact leaf_q (sub_out 8 _ rfl (by kernel_rfl) ⟨(congrArg Value.bool (by rw [decide_eq_true h792] <;> rfl)), trivial⟩)
     ·refine qa 4 ((6, .bool false) :: (122, .bool false) :: (121, undef) :: (120, .bool false) :: _) rfl ?_
      exact leaf_q (sub_out 8 _ rfl (by kernel_rfl) ⟨(congrArg Value.bool (by rw [decide_eq_false h792] <;> rfl)), trivial⟩)
    refine xm_next ?_
    refine cm_ret ?_
    exact xm_retT rfl (by kernel_rfl) (show _ = Value.bool _ from rfl) fun w1 c1 => ⟨(), rfl, hsub [] (by kernel_rfl) rfl w1 c1⟩
end Go.Proofs.YtpbgfdmkebnjgaaGreatDoor
