/- Models of functions, and that the code follows them. Written by deco.py. -/
import Derived.Test.YtpbgfdmkebnjgaaGreatDoorBRC
namespace Go.Proofs.YtpbgfdmkebnjgaaGreatDoor
open Go.RowKit
set_option linter.unusedSectionVars false
variable [JF]

/-- recyclinglaw54.BillCredits -/
def m_recyclinglaw54_BillCredits (N : Nat) (p0 : ApiBill) (p1 : Int) (p2 : Int) : Option (Bool) :=
 (if 600 < (List.length p0.Items : Int) then
  Option.bind (m_recyclinglaw54_awake N) fun r7 => some (r7)
 else
  Option.bind (m_bill_Credit N p0 p1 p2) fun r9 => Option.bind (m_recyclingref54_Credit N p0 p1 p2) fun r12 => Option.bind (m_recyclingref54_Same N r9.1 r12.1) fun r15 => callIf ((r15 && (decide (r9.2 = r12.2))) = true) (m_recyclinglaw54_awake N) fun r17 => some (((r15 && (decide (r9.2 = r12.2))) && r17)))
set_option maxRecDepth 20000 in
theorem m_recyclinglaw54_BillCredits_ok (N : Nat) (w0 : World) (p0 : ApiBill) (p1 : Int) (p2 : Int) (A_p01 : Option Addr) (n_p01 c_p01 : Nat) (hr_p01 : RdE w0 5 encApiItem A_p01 p0.Items) (hz_p01 : SW A_p01 n_p01 c_p01 (List.length p0.Items)) (ht : Tab w0) (r : Bool) (hr : m_recyclinglaw54_BillCredits N p0 p1 p2 = some r) :
  Ret Tryz.prog 5 [.agg #[.int .i64 p0.ID, .int .i64 p0.Household, .int .i64 p0.When.From, .int .i64 p0.When.To, .slice A_p01 n_p01 c_p01, .int .i64 p0.Total], .int .i64 p1, .int .i64 p2] w0 (fun (r : Bool) (_u : Unit) => .bool r) (fun (_r : Bool) (_u : Unit) => []) r := by
 refine calls_v (n := 41) r hr Tryz.func5 ?_
 unfold m_recyclinglaw54_BillCredits
 refine sr ?_
 refine lm_box 3 [.int .i64 _, .int .i64 _, .int .i64 _, .int .i64 _, .slice _ _ _, .int .i64 _] (by kernel_rfl) rfl ?_
 intro b5
 refine la 1 ((6, .bool false) :: _) rfl ?_
 refine nn ?_
 refine cm_seq ?_
 refine sr ?_
 refine v_ 11 (fun _ _ => oF 4 4 rfl) ?_
 refine v_ 12 (fun _ c1 => oL (c1.cell 0 (u := .slice _ _ _) rfl rfl)) ?_
 refine v_ 13 (fun _ _ => op_lenN rfl (by kernel_rfl) hz_p01.2.2) ?_
 refine la 1 ((14, .bool _) :: _) rfl ?_
 refine nn ?_
 refine cm_cond (by kernel_rfl) rfl (fun h6 => ?_) (fun h6 => ?_)
 ·refine sr ?_
  refine lm_call 15 (V := (fun (r : Bool) (_u : Unit) => .bool r)) (HR := (fun (_r : Bool) (_u : Unit) => [])) (by kernel_rfl) (fun w1 => op_call (by kernel_rfl)) (fun r1 hr1 w1 c1 => m_recyclinglaw54_awake_ok N w1  (hs_tab ht c1) r1 hr1) ?_
  intro r7 u8
  refine la 1 ((6, .bool _) :: _) rfl ?_
  refine nn ?_
  refine cm_ret ?_
  refine xm_thenR ?_
  exact xm_retT rfl (by kernel_rfl) (show _ = Value.bool _ from rfl) fun w1 c1 => ⟨(), rfl, hsub [] (by kernel_rfl) rfl w1 c1⟩
 ·refine sk ?_
  refine sr ?_
  refine v_ 17 (fun _ c1 => oR [.int .i64 _, .int .i64 _, .int .i64 _, .int .i64 _, .slice _ _ _, .int .i64 _] (c1.cells 0 rfl rfl)) ?_
  refine la 2 ((19, .int .i64 _) :: (18, .int .i64 _) :: _) rfl ?_
  refine lm_call 20 (V := (fun (r : ApiBill × Int) (u : (Option Addr) × Nat × Nat) => .tuple #[.agg #[.int .i64 r.1.ID, .int .i64 r.1.Household, .int .i64 r.1.When.From, .int .i64 r.1.When.To, .slice u.1 u.2.1 u.2.2, .int .i64 r.1.Total], .int .i64 r.2])) (HR := (fun (r : ApiBill × Int) (u : (Option Addr) × Nat × Nat) => [ownE 66 5 encApiItem u.1 u.2.1 u.2.2 r.1.Items])) (by kernel_rfl) (fun w1 => op_call (by kernel_rfl)) (fun r1 hr1 w1 c1 => m_bill_Credit_ok N w1 p0 p1 p2 A_p01 n_p01 c_p01 (hr_p01.old c1) hz_p01 r1 hr1) ?_
  intro r9 u10
  refine la 3 ((22, .int .i64 _) :: (21, .agg _) :: (16, .tuple _) :: _) rfl ?_
  refine lm_alloc 7 [.int .i64 0, .int .i64 0, .int .i64 0, .int .i64 0, .slice none 0 0, .int .i64 0] (v := .agg #[.int .i64 0, .int .i64 0, .int .i64 0, .int .i64 0, .slice none 0 0, .int .i64 0]) (by kernel_rfl) (by kernel_rfl) rfl ?_
  intro b11
  refine lm_storeA 0 [.int .i64 _, .int .i64 _, .int .i64 _, .int .i64 _, .slice _ _ _, .int .i64 _] [_, _, _, _, _, _] (H' := [blkE _ _ [_, _, _, _, _, _], _, _]) (by kernel_rfl) rfl rfl (by kernel_rfl) rfl rfl (by kernel_rfl) rfl rfl ?_
  refine la 1 ((8, .int .i64 _) :: _) rfl ?_
  refine nn ?_
  refine sr ?_
  refine v_ 24 (fun _ c1 => oR [.int .i64 _, .int .i64 _, .int .i64 _, .int .i64 _, .slice _ _ _, .int .i64 _] (c1.cells 2 rfl rfl)) ?_
  refine la 2 ((26, .int .i64 _) :: (25, .int .i64 _) :: _) rfl ?_
  refine lm_call 27 (V := (fun (r : ApiBill × Int) (u : (Option Addr) × Nat × Nat) => .tuple #[.agg #[.int .i64 r.1.ID, .int .i64 r.1.Household, .int .i64 r.1.When.From, .int .i64 r.1.When.To, .slice u.1 u.2.1 u.2.2, .int .i64 r.1.Total], .int .i64 r.2])) (HR := (fun (r : ApiBill × Int) (u : (Option Addr) × Nat × Nat) => [ownE 66 5 encApiItem u.1 u.2.1 u.2.2 r.1.Items])) (by kernel_rfl) (fun w1 => op_call (by kernel_rfl)) (fun r1 hr1 w1 c1 => m_recyclingref54_Credit_ok N w1 p0 p1 p2 A_p01 n_p01 c_p01 (hr_p01.old c1) hz_p01 r1 hr1) ?_
  intro r12 u13
  refine la 3 ((29, .int .i64 _) :: (28, .agg _) :: (23, .tuple _) :: _) rfl ?_
  refine lm_alloc 9 [.int .i64 0, .int .i64 0, .int .i64 0, .int .i64 0, .slice none 0 0, .int .i64 0] (v := .agg #[.int .i64 0, .int .i64 0, .int .i64 0, .int .i64 0, .slice none 0 0, .int .i64 0]) (by kernel_rfl) (by kernel_rfl) rfl ?_
  intro b14
  refine lm_storeA 0 [.int .i64 _, .int .i64 _, .int .i64 _, .int .i64 _, .slice _ _ _, .int .i64 _] [_, _, _, _, _, _] (H' := [blkE _ _ [_, _, _, _, _, _], _, _, _, _]) (by kernel_rfl) rfl rfl (by kernel_rfl) rfl rfl (by kernel_rfl) rfl rfl ?_
  refine la 1 ((10, .int .i64 _) :: _) rfl ?_
  refine nn ?_
  refine cm_seq ?_
  refine cm_bind fun r15 h16 => ?_
  refine cm_callIf fun r17 h18 => ?_
  refine cm_cutE [(6, .bool ((r15 && (decide (r9.2 = r12.2))) && r17))] ?_ ?_
  ·refine q_ 30 (fun _ c1 => oR [.int .i64 _, .int .i64 _, .int .i64 _, .int .i64 _, .slice _ _ _, .int .i64 _] (c1.cells 2 rfl rfl)) ?_
   refine q_ 31 (fun _ c1 => oR [.int .i64 _, .int .i64 _, .int .i64 _, .int .i64 _, .slice _ _ _, .int .i64 _] (c1.cells 0 rfl rfl)) ?_
   refine wq_callb 32 (by kernel_rfl) (fun w1 c1 => op_call (by kernel_rfl)) (fun w1 c1 => (m_recyclingref54_Same_ok N w1 r9.1 r12.1 u10.1 u10.2.1 u10.2.2 u13.1 u13.2.1 u13.2.2 (c1.own 3 rfl encApiItem_len) (c1.ownZ 3 rfl) (c1.own 1 rfl encApiItem_len) (c1.ownZ 1 rfl) r15 h16).mono (fun _ _ ⟨_, hx, hu⟩ => ⟨hx, c1.call hu⟩)) (fun h19 => ?_) (fun h19 => ?_)
   ·refine qa 3 ((35, .int .i64 _) :: (34, .int .i64 _) :: (33, .bool true) :: _) rfl ?_
    refine qd 36 (fun _ _ => op_eql rfl rfl) (fun h20 => ?_) (fun h20 => ?_)
    ·refine qa 2 ((38, .bool true) :: (37, .bool true) :: _) rfl ?_
     refine wq_call 39 (by kernel_rfl) (fun w1 c1 => op_call (by kernel_rfl)) (fun w1 c1 => (m_recyclinglaw54_awake_ok N w1  (hs_tab ht c1) r17 (h18 (by rw [h19, decide_eq_true h20] <;> rfl))).mono (fun _ _ ⟨_, hx, hu⟩ => ⟨hx, c1.call hu⟩)) ?_
     refine qa 2 ((6, .bool _) :: (40, .bool _) :: _) rfl ?_
     exact leaf_q (sub_out 12 _ rfl (by kernel_rfl) ⟨(congrArg Value.bool (by rw [h19, decide_eq_true h20] <;> rfl)), trivial⟩)
    ·refine qa 5 ((6, .bool false) :: (40, .bool false) :: (39, undef) :: (38, .bool false) :: (37, .bool false) :: _) rfl ?_
     exact leaf_q (sub_out 12 _ rfl (by kernel_rfl) ⟨(congrArg Value.bool (by rw [h19, decide_eq_false h20] <;> rfl)), trivial⟩)
   ·refine qa 9 ((6, .bool false) :: (40, .bool false) :: (39, undef) :: (38, .bool false) :: (37, .bool false) :: (36, undef) :: (35, undef) :: (34, undef) :: (33, .bool false) :: _) rfl ?_
    exact leaf_q (sub_out 12 _ rfl (by kernel_rfl) ⟨(congrArg Value.bool (by rw [h19] <;> rfl)), trivial⟩)
  refine xm_next ?_
  refine cm_ret ?_
  exact xm_retT rfl (by kernel_rfl) (show _ = Value.bool _ from rfl) fun w1 c1 => ⟨(), rfl, hsub [] (by kernel_rfl) rfl w1 c1⟩
end Go.Proofs.YtpbgfdmkebnjgaaGreatDoor
