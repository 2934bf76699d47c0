/- Models of functions, and that the code follows them. Written by deco.py. -/
import Derived.Test.YtpbgfdmkebnjgaaGreatDoorBR3
import Derived.Test.YtpbgfdmkebnjgaaGreatDoorBRS
namespace Go.Proofs.YtpbgfdmkebnjgaaGreatDoor
open Go.RowKit
set_option linter.unusedSectionVars false
variable [JF]

/-- recyclinglaw54.BillMakes -/
def m_recyclinglaw54_BillMakes (N : Nat) (p0 : ApiAccount) (p1 : Recyclinglaw54Ask) : Option (Bool) :=
 Option.bind (m_recyclinglaw54_great N p0) fun r7 => (if r7 = true then
  Option.bind (m_recyclinglaw54_awake N) fun r10 => some (r10)
 else
  Option.bind (m_bill_Make N p0 p1.ID p1.Household p1.When) fun r12 => Option.bind (m_recyclingref54_Make N p0 p1.ID p1.Household p1.When) fun r15 => Option.bind (m_recyclingref54_Same N r12.1 r15.1) fun r18 => callIf ((r18 && (decide (r12.2 = r15.2))) = true) (m_recyclinglaw54_awake N) fun r20 => some (((r18 && (decide (r12.2 = r15.2))) && r20)))
set_option maxRecDepth 20000 in
theorem m_recyclinglaw54_BillMakes_ok (N : Nat) (w0 : World) (p0 : ApiAccount) (p1 : Recyclinglaw54Ask) (A_p01 : Option Addr) (n_p01 c_p01 : Nat) (A_p02 : Option Addr) (n_p02 c_p02 : Nat) (A_p03 : Option Addr) (n_p03 c_p03 : Nat) (A_p04 : Option Addr) (n_p04 c_p04 : Nat) (A_p05 : Option Addr) (n_p05 c_p05 : Nat) (hr_p01 : RdE w0 2 encApiHousehold A_p01 p0.Households) (hz_p01 : SW A_p01 n_p01 c_p01 (List.length p0.Households)) (hr_p02 : RdE w0 5 encApiContainer A_p02 p0.Containers) (hz_p02 : SW A_p02 n_p02 c_p02 (List.length p0.Containers)) (hr_p03 : RdE w0 4 encApiAssign A_p03 p0.Assigns) (hz_p03 : SW A_p03 n_p03 c_p03 (List.length p0.Assigns)) (hr_p04 : RdE w0 7 encApiEmptying A_p04 p0.Emptyings) (hz_p04 : SW A_p04 n_p04 c_p04 (List.length p0.Emptyings)) (hr_p05 : RdE w0 5 encApiTariff A_p05 p0.Tariffs) (hz_p05 : SW A_p05 n_p05 c_p05 (List.length p0.Tariffs)) (ht : Tab w0) (r : Bool) (hr : m_recyclinglaw54_BillMakes N p0 p1 = some r) :
  Ret Tryz.prog 4 [.agg #[.slice A_p01 n_p01 c_p01, .slice A_p02 n_p02 c_p02, .slice A_p03 n_p03 c_p03, .slice A_p04 n_p04 c_p04, .slice A_p05 n_p05 c_p05, .int .i64 p0.Gap], .agg #[.int .i64 p1.ID, .int .i64 p1.Household, .int .i64 p1.When.From, .int .i64 p1.When.To]] w0 (fun (r : Bool) (_u : Unit) => .bool r) (fun (_r : Bool) (_u : Unit) => []) r := by
 refine calls_v (n := 45) r hr Tryz.func4 ?_
 unfold m_recyclinglaw54_BillMakes
 refine sr ?_
 refine lm_box 2 [.slice _ _ _, .slice _ _ _, .slice _ _ _, .slice _ _ _, .slice _ _ _, .int .i64 _] (by kernel_rfl) rfl ?_
 intro b5
 refine lm_box 3 [.int .i64 _, .int .i64 _, .int .i64 _, .int .i64 _] (by kernel_rfl) rfl ?_
 intro b6
 refine la 1 ((4, .bool false) :: _) rfl ?_
 refine nn ?_
 refine cm_seq ?_
 refine sr ?_
 refine v_ 9 (fun _ c1 => oR [.slice _ _ _, .slice _ _ _, .slice _ _ _, .slice _ _ _, .slice _ _ _, .int .i64 _] (c1.cells 1 rfl rfl)) ?_
 refine lm_call 10 (V := (fun (r : Bool) (_u : Unit) => .bool r)) (HR := (fun (_r : Bool) (_u : Unit) => [])) (by kernel_rfl) (fun w1 => op_call (by kernel_rfl)) (fun r1 hr1 w1 c1 => m_recyclinglaw54_great_ok N w1 p0 A_p01 n_p01 c_p01 A_p02 n_p02 c_p02 A_p03 n_p03 c_p03 A_p04 n_p04 c_p04 A_p05 n_p05 c_p05 (hr_p01.old c1) hz_p01 (hr_p02.old c1) hz_p02 (hr_p03.old c1) hz_p03 (hr_p04.old c1) hz_p04 (hr_p05.old c1) hz_p05 r1 hr1) ?_
 intro r7 u8
 refine nn ?_
 refine cm_condB (by kernel_rfl) rfl (fun h9 => ?_) (fun h9 => ?_)
 ·refine sr ?_
  refine lm_call 11 (V := (fun (r : Bool) (_u : Unit) => .bool r)) (HR := (fun (_r : Bool) (_u : Unit) => [])) (by kernel_rfl) (fun w1 => op_call (by kernel_rfl)) (fun r1 hr1 w1 c1 => m_recyclinglaw54_awake_ok N w1  (hs_tab ht c1) r1 hr1) ?_
  intro r10 u11
  refine la 1 ((4, .bool _) :: _) rfl ?_
  refine nn ?_
  refine cm_ret ?_
  refine xm_thenR ?_
  exact xm_retT rfl (by kernel_rfl) (show _ = Value.bool _ from rfl) fun w1 c1 => ⟨(), rfl, hsub [] (by kernel_rfl) rfl w1 c1⟩
 ·refine sk ?_
  refine sr ?_
  refine v_ 13 (fun _ c1 => oR [.slice _ _ _, .slice _ _ _, .slice _ _ _, .slice _ _ _, .slice _ _ _, .int .i64 _] (c1.cells 1 rfl rfl)) ?_
  refine v_ 14 (fun _ _ => oF 0 0 rfl) ?_
  refine v_ 15 (fun _ c1 => oL (c1.cell 0 (u := .int .i64 _) rfl rfl)) ?_
  refine v_ 16 (fun _ _ => oF 1 1 rfl) ?_
  refine v_ 17 (fun _ c1 => oL (c1.cell 0 (u := .int .i64 _) rfl rfl)) ?_
  refine v_ 18 (fun _ _ => oF 2 2 rfl) ?_
  refine v_ 19 (fun _ c1 => oR [.int .i64 _, .int .i64 _] (c1.cells 0 rfl rfl)) ?_
  refine lm_call 20 (V := (fun (r : ApiBill × Int) (u : (Option Addr) × Nat × Nat) => .tuple #[.agg #[.int .i64 r.1.ID, .int .i64 r.1.Household, .int .i64 r.1.When.From, .int .i64 r.1.When.To, .slice u.1 u.2.1 u.2.2, .int .i64 r.1.Total], .int .i64 r.2])) (HR := (fun (r : ApiBill × Int) (u : (Option Addr) × Nat × Nat) => [ownE 66 5 encApiItem u.1 u.2.1 u.2.2 r.1.Items])) (by kernel_rfl) (fun w1 => op_call (by kernel_rfl)) (fun r1 hr1 w1 c1 => m_bill_Make_ok N w1 p0 p1.ID p1.Household p1.When A_p01 n_p01 c_p01 A_p02 n_p02 c_p02 A_p03 n_p03 c_p03 A_p04 n_p04 c_p04 A_p05 n_p05 c_p05 (hr_p01.old c1) hz_p01 (hr_p02.old c1) hz_p02 (hr_p03.old c1) hz_p03 (hr_p04.old c1) hz_p04 (hr_p05.old c1) hz_p05 r1 hr1) ?_
  intro r12 u13
  refine la 3 ((22, .int .i64 _) :: (21, .agg _) :: (12, .tuple _) :: _) rfl ?_
  refine lm_alloc 5 [.int .i64 0, .int .i64 0, .int .i64 0, .int .i64 0, .slice none 0 0, .int .i64 0] (v := .agg #[.int .i64 0, .int .i64 0, .int .i64 0, .int .i64 0, .slice none 0 0, .int .i64 0]) (by kernel_rfl) (by kernel_rfl) rfl ?_
  intro b14
  refine lm_storeA 0 [.int .i64 _, .int .i64 _, .int .i64 _, .int .i64 _, .slice _ _ _, .int .i64 _] [_, _, _, _, _, _] (H' := [blkE _ _ [_, _, _, _, _, _], _, _, _]) (by kernel_rfl) rfl rfl (by kernel_rfl) rfl rfl (by kernel_rfl) rfl rfl ?_
  refine la 1 ((6, .int .i64 _) :: _) rfl ?_
  refine nn ?_
  refine sr ?_
  refine v_ 24 (fun _ c1 => oR [.slice _ _ _, .slice _ _ _, .slice _ _ _, .slice _ _ _, .slice _ _ _, .int .i64 _] (c1.cells 3 rfl rfl)) ?_
  refine v_ 25 (fun _ _ => oF 0 0 rfl) ?_
  refine v_ 26 (fun _ c1 => oL (c1.cell 2 (u := .int .i64 _) rfl rfl)) ?_
  refine v_ 27 (fun _ _ => oF 1 1 rfl) ?_
  refine v_ 28 (fun _ c1 => oL (c1.cell 2 (u := .int .i64 _) rfl rfl)) ?_
  refine v_ 29 (fun _ _ => oF 2 2 rfl) ?_
  refine v_ 30 (fun _ c1 => oR [.int .i64 _, .int .i64 _] (c1.cells 2 rfl rfl)) ?_
  refine lm_call 31 (V := (fun (r : ApiBill × Int) (u : (Option Addr) × Nat × Nat) => .tuple #[.agg #[.int .i64 r.1.ID, .int .i64 r.1.Household, .int .i64 r.1.When.From, .int .i64 r.1.When.To, .slice u.1 u.2.1 u.2.2, .int .i64 r.1.Total], .int .i64 r.2])) (HR := (fun (r : ApiBill × Int) (u : (Option Addr) × Nat × Nat) => [ownE 66 5 encApiItem u.1 u.2.1 u.2.2 r.1.Items])) (by kernel_rfl) (fun w1 => op_call (by kernel_rfl)) (fun r1 hr1 w1 c1 => m_recyclingref54_Make_ok N w1 p0 p1.ID p1.Household p1.When A_p01 n_p01 c_p01 A_p02 n_p02 c_p02 A_p03 n_p03 c_p03 A_p04 n_p04 c_p04 A_p05 n_p05 c_p05 (hr_p01.old c1) hz_p01 (hr_p02.old c1) hz_p02 (hr_p03.old c1) hz_p03 (hr_p04.old c1) hz_p04 (hr_p05.old c1) hz_p05 r1 hr1) ?_
  intro r15 u16
  refine la 3 ((33, .int .i64 _) :: (32, .agg _) :: (23, .tuple _) :: _) rfl ?_
  refine lm_alloc 7 [.int .i64 0, .int .i64 0, .int .i64 0, .int .i64 0, .slice none 0 0, .int .i64 0] (v := .agg #[.int .i64 0, .int .i64 0, .int .i64 0, .int .i64 0, .slice none 0 0, .int .i64 0]) (by kernel_rfl) (by kernel_rfl) rfl ?_
  intro b17
  refine lm_storeA 0 [.int .i64 _, .int .i64 _, .int .i64 _, .int .i64 _, .slice _ _ _, .int .i64 _] [_, _, _, _, _, _] (H' := [blkE _ _ [_, _, _, _, _, _], _, _, _, _, _]) (by kernel_rfl) rfl rfl (by kernel_rfl) rfl rfl (by kernel_rfl) rfl rfl ?_
  refine la 1 ((8, .int .i64 _) :: _) rfl ?_
  refine nn ?_
  refine cm_seq ?_
  refine cm_bind fun r18 h19 => ?_
  refine cm_callIf fun r20 h21 => ?_
  refine cm_cutE [(4, .bool ((r18 && (decide (r12.2 = r15.2))) && r20))] ?_ ?_
  ·refine q_ 34 (fun _ c1 => oR [.int .i64 _, .int .i64 _, .int .i64 _, .int .i64 _, .slice _ _ _, .int .i64 _] (c1.cells 2 rfl rfl)) ?_
   refine q_ 35 (fun _ c1 => oR [.int .i64 _, .int .i64 _, .int .i64 _, .int .i64 _, .slice _ _ _, .int .i64 _] (c1.cells 0 rfl rfl)) ?_
   refine wq_callb 36 (by kernel_rfl) (fun w1 c1 => op_call (by kernel_rfl)) (fun w1 c1 => (m_recyclingref54_Same_ok N w1 r12.1 r15.1 u13.1 u13.2.1 u13.2.2 u16.1 u16.2.1 u16.2.2 (c1.own 3 rfl encApiItem_len) (c1.ownZ 3 rfl) (c1.own 1 rfl encApiItem_len) (c1.ownZ 1 rfl) r18 h19).mono (fun _ _ ⟨_, hx, hu⟩ => ⟨hx, c1.call hu⟩)) (fun h22 => ?_) (fun h22 => ?_)
   ·refine qa 3 ((39, .int .i64 _) :: (38, .int .i64 _) :: (37, .bool true) :: _) rfl ?_
    refine qd 40 (fun _ _ => op_eql rfl rfl) (fun h23 => ?_) (fun h23 => ?_)
    ·refine qa 2 ((42, .bool true) :: (41, .bool true) :: _) rfl ?_
     refine wq_call 43 (by kernel_rfl) (fun w1 c1 => op_call (by kernel_rfl)) (fun w1 c1 => (m_recyclinglaw54_awake_ok N w1  (hs_tab ht c1) r20 (h21 (by rw [h22, decide_eq_true h23] <;> rfl))).mono (fun _ _ ⟨_, hx, hu⟩ => ⟨hx, c1.call hu⟩)) ?_
     refine qa 2 ((4, .bool _) :: (44, .bool _) :: _) rfl ?_
     exact leaf_q (sub_out 12 _ rfl (by kernel_rfl) ⟨(congrArg Value.bool (by rw [h22, decide_eq_true h23] <;> rfl)), trivial⟩)
    ·refine qa 5 ((4, .bool false) :: (44, .bool false) :: (43, undef) :: (42, .bool false) :: (41, .bool false) :: _) rfl ?_
     exact leaf_q (sub_out 12 _ rfl (by kernel_rfl) ⟨(congrArg Value.bool (by rw [h22, decide_eq_false h23] <;> rfl)), trivial⟩)
   ·refine qa 9 ((4, .bool false) :: (44, .bool false) :: (43, undef) :: (42, .bool false) :: (41, .bool false) :: (40, undef) :: (39, undef) :: (38, undef) :: (37, .bool false) :: _) rfl ?_
    exact leaf_q (sub_out 12 _ rfl (by kernel_rfl) ⟨(congrArg Value.bool (by rw [h22] <;> rfl)), trivial⟩)
  refine xm_next ?_
  refine cm_ret ?_
  exact xm_retT rfl (by kernel_rfl) (show _ = Value.bool _ from rfl) fun w1 c1 => ⟨(), rfl, hsub [] (by kernel_rfl) rfl w1 c1⟩
end Go.Proofs.YtpbgfdmkebnjgaaGreatDoor
