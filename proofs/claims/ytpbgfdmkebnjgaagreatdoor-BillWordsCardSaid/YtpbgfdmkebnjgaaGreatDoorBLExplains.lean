/- Models of functions, and that the code follows them. Written by deco.py. -/
import Derived.Test.YtpbgfdmkebnjgaaGreatDoorBR5
namespace Go.Proofs.YtpbgfdmkebnjgaaGreatDoor
open Go.RowKit
set_option linter.unusedSectionVars false
variable [JF]

/-- recyclinglaw54.BillExplains -/
def m_recyclinglaw54_BillExplains (N : Nat) (p0 : ApiAccount) (p1 : ApiBill) (p2 : Int) : Option (Bool) :=
 Option.bind (m_recyclinglaw54_great N p0) fun r7 => (if (r7 || (decide (600 < (List.length p1.Items : Int)))) = true then
  Option.bind (m_recyclinglaw54_awake N) fun r11 => some (r11)
 else
  Option.bind (m_bill_Explain N p0 p1 p2) fun r13 => Option.bind (m_recyclingref54_Explain N p0 p1 p2) fun r15 => callIf (((decide (r13.1 = r15.1)) && (decide (r13.2 = r15.2))) = true) (m_recyclinglaw54_awake N) fun r17 => some ((((decide (r13.1 = r15.1)) && (decide (r13.2 = r15.2))) && r17)))
set_option maxRecDepth 20000 in
theorem m_recyclinglaw54_BillExplains_ok (N : Nat) (w0 : World) (p0 : ApiAccount) (p1 : ApiBill) (p2 : Int) (A_p01 : Option Addr) (n_p01 c_p01 : Nat) (A_p02 : Option Addr) (n_p02 c_p02 : Nat) (A_p03 : Option Addr) (n_p03 c_p03 : Nat) (A_p04 : Option Addr) (n_p04 c_p04 : Nat) (A_p05 : Option Addr) (n_p05 c_p05 : Nat) (A_p11 : Option Addr) (n_p11 c_p11 : Nat) (hr_p01 : RdE w0 2 encApiHousehold A_p01 p0.Households) (hz_p01 : SW A_p01 n_p01 c_p01 (List.length p0.Households)) (hr_p02 : RdE w0 5 encApiContainer A_p02 p0.Containers) (hz_p02 : SW A_p02 n_p02 c_p02 (List.length p0.Containers)) (hr_p03 : RdE w0 4 encApiAssign A_p03 p0.Assigns) (hz_p03 : SW A_p03 n_p03 c_p03 (List.length p0.Assigns)) (hr_p04 : RdE w0 7 encApiEmptying A_p04 p0.Emptyings) (hz_p04 : SW A_p04 n_p04 c_p04 (List.length p0.Emptyings)) (hr_p05 : RdE w0 5 encApiTariff A_p05 p0.Tariffs) (hz_p05 : SW A_p05 n_p05 c_p05 (List.length p0.Tariffs)) (hr_p11 : RdE w0 5 encApiItem A_p11 p1.Items) (hz_p11 : SW A_p11 n_p11 c_p11 (List.length p1.Items)) (ht : Tab w0) (r : Bool) (hr : m_recyclinglaw54_BillExplains N p0 p1 p2 = some r) :
  Ret Tryz.prog 7 [.agg #[.slice A_p01 n_p01 c_p01, .slice A_p02 n_p02 c_p02, .slice A_p03 n_p03 c_p03, .slice A_p04 n_p04 c_p04, .slice A_p05 n_p05 c_p05, .int .i64 p0.Gap], .agg #[.int .i64 p1.ID, .int .i64 p1.Household, .int .i64 p1.When.From, .int .i64 p1.When.To, .slice A_p11 n_p11 c_p11, .int .i64 p1.Total], .int .i64 p2] w0 (fun (r : Bool) (_u : Unit) => .bool r) (fun (_r : Bool) (_u : Unit) => []) r := by
 refine calls_v (n := 45) r hr Tryz.func7 ?_
 unfold m_recyclinglaw54_BillExplains
 refine sr ?_
 refine lm_box 3 [.slice _ _ _, .slice _ _ _, .slice _ _ _, .slice _ _ _, .slice _ _ _, .int .i64 _] (by kernel_rfl) rfl ?_
 intro b5
 refine lm_box 4 [.int .i64 _, .int .i64 _, .int .i64 _, .int .i64 _, .slice _ _ _, .int .i64 _] (by kernel_rfl) rfl ?_
 intro b6
 refine la 1 ((6, .bool false) :: _) rfl ?_
 refine nn ?_
 refine cm_seq ?_
 refine cm_seq ?_
 refine cm_bind fun r7 h8 => ?_
 refine cm_cutE [(18, .bool (r7 || (decide (600 < (List.length p1.Items : Int)))))] ?_ ?_
 ·refine q_ 11 (fun _ c1 => oR [.slice _ _ _, .slice _ _ _, .slice _ _ _, .slice _ _ _, .slice _ _ _, .int .i64 _] (c1.cells 1 rfl rfl)) ?_
  refine wq_callb 12 (by kernel_rfl) (fun w1 c1 => op_call (by kernel_rfl)) (fun w1 c1 => (m_recyclinglaw54_great_ok N w1 p0 A_p01 n_p01 c_p01 A_p02 n_p02 c_p02 A_p03 n_p03 c_p03 A_p04 n_p04 c_p04 A_p05 n_p05 c_p05 (hr_p01.old c1) hz_p01 (hr_p02.old c1) hz_p02 (hr_p03.old c1) hz_p03 (hr_p04.old c1) hz_p04 (hr_p05.old c1) hz_p05 r7 h8).mono (fun _ _ ⟨_, hx, hu⟩ => ⟨hx, c1.call hu⟩)) (fun h9 => ?_) (fun h9 => ?_)
  ·refine qa 6 ((18, .bool true) :: (17, undef) :: (16, undef) :: (15, undef) :: (14, undef) :: (13, .bool true) :: _) rfl ?_
   exact leaf_q (sub_out 8 _ rfl (by kernel_rfl) ⟨(congrArg Value.bool (by rw [h9] <;> rfl)), trivial⟩)
  ·refine qa 1 ((13, .bool false) :: _) rfl ?_
   refine q_ 14 (fun _ _ => oF 4 4 rfl) ?_
   refine q_ 15 (fun _ c1 => oL (c1.cell 0 (u := .slice _ _ _) rfl rfl)) ?_
   refine q_ 16 (fun _ _ => op_lenN rfl (by kernel_rfl) hz_p11.2.2) ?_
   refine qa 2 ((18, .bool _) :: (17, .bool _) :: _) rfl ?_
   exact leaf_q (sub_out 8 _ rfl (by kernel_rfl) ⟨(congrArg Value.bool (by rw [h9] <;> rfl)), trivial⟩)
 refine xm_next ?_
 refine cm_condB (by kernel_rfl) rfl (fun h10 => ?_) (fun h10 => ?_)
 ·refine sr ?_
  refine lm_call 19 (V := (fun (r : Bool) (_u : Unit) => .bool r)) (HR := (fun (_r : Bool) (_u : Unit) => [])) (by kernel_rfl) (fun w1 => op_call (by kernel_rfl)) (fun r1 hr1 w1 c1 => m_recyclinglaw54_awake_ok N w1  (hs_tab ht c1) r1 hr1) ?_
  intro r11 u12
  refine la 1 ((6, .bool _) :: _) rfl ?_
  refine nn ?_
  refine cm_ret ?_
  refine xm_thenR ?_
  exact xm_retT rfl (by kernel_rfl) (show _ = Value.bool _ from rfl) fun w1 c1 => ⟨(), rfl, hsub [] (by kernel_rfl) rfl w1 c1⟩
 ·refine sk ?_
  refine sr ?_
  refine v_ 21 (fun _ c1 => oR [.slice _ _ _, .slice _ _ _, .slice _ _ _, .slice _ _ _, .slice _ _ _, .int .i64 _] (c1.cells 1 rfl rfl)) ?_
  refine v_ 22 (fun _ c1 => oR [.int .i64 _, .int .i64 _, .int .i64 _, .int .i64 _, .slice _ _ _, .int .i64 _] (c1.cells 0 rfl rfl)) ?_
  refine la 1 ((23, .int .i64 _) :: _) rfl ?_
  refine lm_call 24 (V := (fun (r : ByteArray × Int) (_u : Unit) => .tuple #[.string r.1, .int .i64 r.2])) (HR := (fun (_r : ByteArray × Int) (_u : Unit) => [])) (by kernel_rfl) (fun w1 => op_call (by kernel_rfl)) (fun r1 hr1 w1 c1 => m_bill_Explain_ok N w1 p0 p1 p2 A_p01 n_p01 c_p01 A_p02 n_p02 c_p02 A_p03 n_p03 c_p03 A_p04 n_p04 c_p04 A_p05 n_p05 c_p05 A_p11 n_p11 c_p11 (hr_p01.old c1) hz_p01 (hr_p02.old c1) hz_p02 (hr_p03.old c1) hz_p03 (hr_p04.old c1) hz_p04 (hr_p05.old c1) hz_p05 (hr_p11.old c1) hz_p11 (hs_tab ht c1) r1 hr1) ?_
  intro r13 u14
  refine la 5 ((8, .int .i64 _) :: (7, .string _) :: (26, .int .i64 _) :: (25, .string _) :: (20, .tuple _) :: _) rfl ?_
  refine nn ?_
  refine sr ?_
  refine v_ 28 (fun _ c1 => oR [.slice _ _ _, .slice _ _ _, .slice _ _ _, .slice _ _ _, .slice _ _ _, .int .i64 _] (c1.cells 1 rfl rfl)) ?_
  refine v_ 29 (fun _ c1 => oR [.int .i64 _, .int .i64 _, .int .i64 _, .int .i64 _, .slice _ _ _, .int .i64 _] (c1.cells 0 rfl rfl)) ?_
  refine la 1 ((30, .int .i64 _) :: _) rfl ?_
  refine lm_call 31 (V := (fun (r : ByteArray × Int) (_u : Unit) => .tuple #[.string r.1, .int .i64 r.2])) (HR := (fun (_r : ByteArray × Int) (_u : Unit) => [])) (by kernel_rfl) (fun w1 => op_call (by kernel_rfl)) (fun r1 hr1 w1 c1 => m_recyclingref54_Explain_ok N w1 p0 p1 p2 A_p01 n_p01 c_p01 A_p02 n_p02 c_p02 A_p03 n_p03 c_p03 A_p04 n_p04 c_p04 A_p05 n_p05 c_p05 A_p11 n_p11 c_p11 (hr_p01.old c1) hz_p01 (hr_p02.old c1) hz_p02 (hr_p03.old c1) hz_p03 (hr_p04.old c1) hz_p04 (hr_p05.old c1) hz_p05 (hr_p11.old c1) hz_p11 (hs_tab ht c1) r1 hr1) ?_
  intro r15 u16
  refine la 5 ((10, .int .i64 _) :: (9, .string _) :: (33, .int .i64 _) :: (32, .string _) :: (27, .tuple _) :: _) rfl ?_
  refine nn ?_
  refine cm_seq ?_
  refine cm_callIf fun r17 h18 => ?_
  refine cm_cutE [(6, .bool (((decide (r13.1 = r15.1)) && (decide (r13.2 = r15.2))) && r17))] ?_ ?_
  ·refine qa 2 ((35, .string _) :: (34, .string _) :: _) rfl ?_
   refine qd 36 (fun _ _ => op_eqlS rfl rfl) (fun h19 => ?_) (fun h19 => ?_)
   ·refine qa 3 ((39, .int .i64 _) :: (38, .int .i64 _) :: (37, .bool true) :: _) rfl ?_
    refine qd 40 (fun _ _ => op_eql rfl rfl) (fun h20 => ?_) (fun h20 => ?_)
    ·refine qa 2 ((42, .bool true) :: (41, .bool true) :: _) rfl ?_
     refine wq_call 43 (by kernel_rfl) (fun w1 c1 => op_call (by kernel_rfl)) (fun w1 c1 => (m_recyclinglaw54_awake_ok N w1  (hs_tab ht c1) r17 (h18 (by rw [decide_eq_true h19, decide_eq_true h20] <;> rfl))).mono (fun _ _ ⟨_, hx, hu⟩ => ⟨hx, c1.call hu⟩)) ?_
     refine qa 2 ((6, .bool _) :: (44, .bool _) :: _) rfl ?_
     exact leaf_q (sub_out 12 _ rfl (by kernel_rfl) ⟨(congrArg Value.bool (by rw [decide_eq_true h19, decide_eq_true h20] <;> rfl)), trivial⟩)
    ·refine qa 5 ((6, .bool false) :: (44, .bool false) :: (43, undef) :: (42, .bool false) :: (41, .bool false) :: _) rfl ?_
     exact leaf_q (sub_out 12 _ rfl (by kernel_rfl) ⟨(congrArg Value.bool (by rw [decide_eq_true h19, decide_eq_false h20] <;> rfl)), trivial⟩)
   ·refine qa 9 ((6, .bool false) :: (44, .bool false) :: (43, undef) :: (42, .bool false) :: (41, .bool false) :: (40, undef) :: (39, undef) :: (38, undef) :: (37, .bool false) :: _) rfl ?_
    exact leaf_q (sub_out 12 _ rfl (by kernel_rfl) ⟨(congrArg Value.bool (by rw [decide_eq_false h19] <;> rfl)), trivial⟩)
  refine xm_next ?_
  refine cm_ret ?_
  exact xm_retT rfl (by kernel_rfl) (show _ = Value.bool _ from rfl) fun w1 c1 => ⟨(), rfl, hsub [] (by kernel_rfl) rfl w1 c1⟩
end Go.Proofs.YtpbgfdmkebnjgaaGreatDoor
