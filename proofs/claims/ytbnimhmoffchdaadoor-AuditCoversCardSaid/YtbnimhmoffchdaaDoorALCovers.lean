/- Models of functions, and that the code follows them. Written by deco.py. -/
import Derived.Test.YtbnimhmoffchdaaDoorAC2
namespace Go.Proofs.YtbnimhmoffchdaaDoor
open Go.RowKit
set_option linter.unusedSectionVars false
variable [JF]

/-- recyclinglaw59.AuditCovers -/
def m_recyclinglaw59_AuditCovers (N : Nat) (p0 : ApiBooks) : Option (Bool) :=
 Option.bind (m_audit_Fees N p0) fun r6 => (if ((decide (r6.2 ≠ 0)) || (decide ((List.length p0.Costs : Int) = 0))) = true then
  Option.bind (m_exampleHolds N) fun r10 => some (r10)
 else
  Option.bind (m_fee_Covers N p0.Costs p0.Fees) fun r12 => callIf (((decide ((List.length r6.1 : Int) = 0)) == r12) = true) (m_exampleHolds N) fun r14 => some ((((decide ((List.length r6.1 : Int) = 0)) == r12) && r14)))
set_option maxRecDepth 20000 in
theorem m_recyclinglaw59_AuditCovers_ok (N : Nat) (w0 : World) (p0 : ApiBooks) (A_p01 : Option Addr) (n_p01 : Nat) (c_p01 : Nat) (A_p02 : Option Addr) (n_p02 : Nat) (c_p02 : Nat) (A_p03 : Option Addr) (n_p03 : Nat) (c_p03 : Nat) (A_p04 : Option Addr) (n_p04 : Nat) (c_p04 : Nat) (A_p05 : Option Addr) (n_p05 : Nat) (c_p05 : Nat) (A_p06 : Option Addr) (n_p06 : Nat) (c_p06 : Nat) (A_p07 : Option Addr) (n_p07 : Nat) (c_p07 : Nat) (d1_p07 : Int → Hdr) (A_p08 : Option Addr) (n_p08 : Nat) (c_p08 : Nat) (A_p09 : Option Addr) (n_p09 : Nat) (c_p09 : Nat) (A_p010 : Option Addr) (n_p010 : Nat) (c_p010 : Nat) (A_p011 : Option Addr) (n_p011 : Nat) (c_p011 : Nat) (A_p012 : Option Addr) (n_p012 : Nat) (c_p012 : Nat) (A_p013 : Option Addr) (n_p013 : Nat) (c_p013 : Nat) (A_p014 : Option Addr) (n_p014 : Nat) (c_p014 : Nat) (d1_p014 : Int → Hdr) (A_p015 : Option Addr) (n_p015 : Nat) (c_p015 : Nat) (d1_p015 : Int → Hdr) (hr_p01 : RdE w0 2 encApiHousehold A_p01 p0.Account.Households) (hz_p01 : SW A_p01 n_p01 c_p01 (List.length p0.Account.Households)) (hr_p02 : RdE w0 5 encApiContainer A_p02 p0.Account.Containers) (hz_p02 : SW A_p02 n_p02 c_p02 (List.length p0.Account.Containers)) (hr_p03 : RdE w0 4 encApiAssign A_p03 p0.Account.Assigns) (hz_p03 : SW A_p03 n_p03 c_p03 (List.length p0.Account.Assigns)) (hr_p04 : RdE w0 7 encApiEmptying A_p04 p0.Account.Emptyings) (hz_p04 : SW A_p04 n_p04 c_p04 (List.length p0.Account.Emptyings)) (hr_p05 : RdE w0 5 encApiTariff A_p05 p0.Account.Tariffs) (hz_p05 : SW A_p05 n_p05 c_p05 (List.length p0.Account.Tariffs)) (hr_p06 : RdE w0 4 encApiTransfer A_p06 p0.Transfers) (hz_p06 : SW A_p06 n_p06 c_p06 (List.length p0.Transfers)) (hr_p07 : RdI w0 4 (fun (i : Int) (x : ApiBale) => encApiBale x (d1_p07 i)) A_p07 p0.Bales) (hz_p07 : SW A_p07 n_p07 c_p07 (List.length p0.Bales)) (hN1_p07 : ∀ i : Int, 0 ≤ i ∧ i < (List.length p0.Bales : Int) → RdE w0 1 encI (d1_p07 i).1 (ix p0.Bales i).Mix ∧ SW (d1_p07 i).1 (d1_p07 i).2.1 (d1_p07 i).2.2 (List.length (ix p0.Bales i).Mix)) (hr_p08 : RdE w0 5 encApiProduct A_p08 p0.Products) (hz_p08 : SW A_p08 n_p08 c_p08 (List.length p0.Products)) (hr_p09 : RdE w0 5 encApiSale A_p09 p0.Sales) (hz_p09 : SW A_p09 n_p09 c_p09 (List.length p0.Sales)) (hr_p010 : RdE w0 5 encApiClaim A_p010 p0.Claims) (hz_p010 : SW A_p010 n_p010 c_p010 (List.length p0.Claims)) (hr_p011 : RdE w0 7 encApiPayout A_p011 p0.Paid) (hz_p011 : SW A_p011 n_p011 c_p011 (List.length p0.Paid)) (hr_p012 : RdE w0 1 encI A_p012 p0.Costs) (hz_p012 : SW A_p012 n_p012 c_p012 (List.length p0.Costs)) (hr_p013 : RdE w0 3 encApiFee A_p013 p0.Fees) (hz_p013 : SW A_p013 n_p013 c_p013 (List.length p0.Fees)) (hr_p014 : RdI w0 6 (fun (i : Int) (x : ApiBill) => encApiBill x (d1_p014 i)) A_p014 p0.Bills) (hz_p014 : SW A_p014 n_p014 c_p014 (List.length p0.Bills)) (hN1_p014 : ∀ i : Int, 0 ≤ i ∧ i < (List.length p0.Bills : Int) → RdE w0 5 encApiItem (d1_p014 i).1 (ix p0.Bills i).Items ∧ SW (d1_p014 i).1 (d1_p014 i).2.1 (d1_p014 i).2.2 (List.length (ix p0.Bills i).Items)) (hr_p015 : RdI w0 3 (fun (i : Int) (x : ApiPosting) => encApiPosting x (d1_p015 i)) A_p015 p0.Postings) (hz_p015 : SW A_p015 n_p015 c_p015 (List.length p0.Postings)) (hN1_p015 : ∀ i : Int, 0 ≤ i ∧ i < (List.length p0.Postings : Int) → RdE w0 2 encApiLine (d1_p015 i).1 (ix p0.Postings i).Lines ∧ SW (d1_p015 i).1 (d1_p015 i).2.1 (d1_p015 i).2.2 (List.length (ix p0.Postings i).Lines)) (ht : Tab w0) (r : Bool) (hr : m_recyclinglaw59_AuditCovers N p0 = some r) :
  Ret Tryd.prog 3 [.agg #[.int .i64 p0.Now, .slice A_p01 n_p01 c_p01, .slice A_p02 n_p02 c_p02, .slice A_p03 n_p03 c_p03, .slice A_p04 n_p04 c_p04, .slice A_p05 n_p05 c_p05, .int .i64 p0.Account.Gap, .slice A_p06 n_p06 c_p06, .int .i64 p0.Inside, .int .i64 p0.Bins, .slice A_p07 n_p07 c_p07, .slice A_p08 n_p08 c_p08, .slice A_p09 n_p09 c_p09, .slice A_p010 n_p010 c_p010, .slice A_p011 n_p011 c_p011, .slice A_p012 n_p012 c_p012, .slice A_p013 n_p013 c_p013, .slice A_p014 n_p014 c_p014, .slice A_p015 n_p015 c_p015]] w0 (fun (r : Bool) (_u : Unit) => .bool r) (fun (_r : Bool) (_u : Unit) => []) r := by
 refine calls_v (n := 31) r hr Tryd.func3 ?_
 unfold m_recyclinglaw59_AuditCovers
 refine sr ?_
 refine lm_box 1 [.int .i64 _, .slice _ _ _, .slice _ _ _, .slice _ _ _, .slice _ _ _, .slice _ _ _, .int .i64 _, .slice _ _ _, .int .i64 _, .int .i64 _, .slice _ _ _, .slice _ _ _, .slice _ _ _, .slice _ _ _, .slice _ _ _, .slice _ _ _, .slice _ _ _, .slice _ _ _, .slice _ _ _] (by kernel_rfl) rfl ?_
 intro b5
 refine la 1 ((2, .bool false) :: _) rfl ?_
 refine nn ?_
 refine sr ?_
 refine v_ 6 (fun _ c1 => oR [.int .i64 _, .slice _ _ _, .slice _ _ _, .slice _ _ _, .slice _ _ _, .slice _ _ _, .int .i64 _, .slice _ _ _, .int .i64 _, .int .i64 _, .slice _ _ _, .slice _ _ _, .slice _ _ _, .slice _ _ _, .slice _ _ _, .slice _ _ _, .slice _ _ _, .slice _ _ _, .slice _ _ _] (c1.cells 0 rfl rfl)) ?_
 refine lm_call 7 (V := (fun (r : (List ApiFinding) × Int) (u : (Option Addr) × Nat × Nat) => .tuple #[.slice u.1 u.2.1 u.2.2, .int .i64 r.2])) (HR := (fun (r : (List ApiFinding) × Int) (u : (Option Addr) × Nat × Nat) => [ownE 60 3 encApiFinding u.1 u.2.1 u.2.2 r.1])) (by kernel_rfl) (fun w1 => op_call (by kernel_rfl)) (fun r1 hr1 w1 c1 => m_audit_Fees_ok N w1 p0 A_p01 n_p01 c_p01 A_p02 n_p02 c_p02 A_p03 n_p03 c_p03 A_p04 n_p04 c_p04 A_p05 n_p05 c_p05 A_p06 n_p06 c_p06 A_p07 n_p07 c_p07 d1_p07 A_p08 n_p08 c_p08 A_p09 n_p09 c_p09 A_p010 n_p010 c_p010 A_p011 n_p011 c_p011 A_p012 n_p012 c_p012 A_p013 n_p013 c_p013 A_p014 n_p014 c_p014 d1_p014 A_p015 n_p015 c_p015 d1_p015 (hr_p01.old c1) hz_p01 (hr_p02.old c1) hz_p02 (hr_p03.old c1) hz_p03 (hr_p04.old c1) hz_p04 (hr_p05.old c1) hz_p05 (hr_p06.old c1) hz_p06 (hr_p07.old c1) hz_p07 (fun i hi => ⟨(hN1_p07 i hi).1.old c1, (hN1_p07 i hi).2⟩) (hr_p08.old c1) hz_p08 (hr_p09.old c1) hz_p09 (hr_p010.old c1) hz_p010 (hr_p011.old c1) hz_p011 (hr_p012.old c1) hz_p012 (hr_p013.old c1) hz_p013 (hr_p014.old c1) hz_p014 (fun i hi => ⟨(hN1_p014 i hi).1.old c1, (hN1_p014 i hi).2⟩) (hr_p015.old c1) hz_p015 (fun i hi => ⟨(hN1_p015 i hi).1.old c1, (hN1_p015 i hi).2⟩) r1 hr1) ?_
 intro r6 u7
 refine la 5 ((4, .int .i64 _) :: (3, .slice _ _ _) :: (9, .int .i64 _) :: (8, .slice _ _ _) :: (5, .tuple _) :: _) rfl ?_
 refine nn ?_
 refine cm_seq ?_
 refine cm_seq ?_
 refine cm_cutE [(17, .bool ((decide (r6.2 ≠ 0)) || (decide ((List.length p0.Costs : Int) = 0))))] ?_ ?_
 ·refine qa 1 ((10, .int .i64 _) :: _) rfl ?_
  refine qd 11 (fun _ _ => op_neq rfl rfl) (fun h8 => ?_) (fun h8 => ?_)
  ·refine qa 6 ((17, .bool true) :: (16, undef) :: (15, undef) :: (14, undef) :: (13, undef) :: (12, .bool true) :: _) rfl ?_
   exact leaf_q (sub_out 8 _ rfl (by kernel_rfl) ⟨(congrArg Value.bool (by rw [decide_eq_true h8] <;> rfl)), trivial⟩)
  ·refine qa 1 ((12, .bool false) :: _) rfl ?_
   refine q_ 13 (fun _ _ => oF 15 15 rfl) ?_
   refine q_ 14 (fun _ c1 => oL (c1.cell 1 (u := .slice _ _ _) rfl rfl)) ?_
   refine q_ 15 (fun _ _ => op_lenN rfl (by kernel_rfl) hz_p012.2.2) ?_
   refine qa 2 ((17, .bool _) :: (16, .bool _) :: _) rfl ?_
   exact leaf_q (sub_out 8 _ rfl (by kernel_rfl) ⟨(congrArg Value.bool (by rw [decide_eq_false h8] <;> rfl)), trivial⟩)
 refine xm_next ?_
 refine cm_condB (by kernel_rfl) rfl (fun h9 => ?_) (fun h9 => ?_)
 ·refine sr ?_
  refine lm_call 18 (V := (fun (r : Bool) (_u : Unit) => .bool r)) (HR := (fun (_r : Bool) (_u : Unit) => [])) (by kernel_rfl) (fun w1 => op_call (by kernel_rfl)) (fun r1 hr1 w1 c1 => m_exampleHolds_ok N w1  (hs_tab ht c1) r1 hr1) ?_
  intro r10 u11
  refine la 1 ((2, .bool _) :: _) rfl ?_
  refine nn ?_
  refine cm_ret ?_
  refine xm_thenR ?_
  exact xm_retT rfl (by kernel_rfl) (show _ = Value.bool _ from rfl) fun w1 c1 => ⟨(), rfl, hsub [] (by kernel_rfl) rfl w1 c1⟩
 ·refine sk ?_
  refine cm_seq ?_
  refine cm_bind fun r12 h13 => ?_
  refine cm_callIf fun r14 h15 => ?_
  refine cm_cutE [(2, .bool (((decide ((List.length r6.1 : Int) = 0)) == r12) && r14))] ?_ ?_
  ·refine qa 1 ((19, .slice _ _ _) :: _) rfl ?_
   refine q_ 20 (fun _ c1 => op_lenN rfl (by kernel_rfl) (c1.ownZ 0 rfl).2.2) ?_
   refine qa 1 ((21, .bool _) :: _) rfl ?_
   refine q_ 22 (fun _ _ => oF 15 15 rfl) ?_
   refine q_ 23 (fun _ c1 => oL (c1.cell 1 (u := .slice _ _ _) rfl rfl)) ?_
   refine q_ 24 (fun _ _ => oF 16 16 rfl) ?_
   refine q_ 25 (fun _ c1 => oL (c1.cell 1 (u := .slice _ _ _) rfl rfl)) ?_
   refine wq_call 26 (by kernel_rfl) (fun w1 c1 => op_call (by kernel_rfl)) (fun w1 c1 => (m_fee_Covers_ok N w1 p0.Costs p0.Fees A_p012 n_p012 c_p012 A_p013 n_p013 c_p013 (hr_p012.old c1) hz_p012 (hr_p013.old c1) hz_p013 r12 h13).mono (fun _ _ ⟨_, hx, hu⟩ => ⟨hx, c1.call hu⟩)) ?_
   refine wq_bool 27 (by kernel_rfl) (fun w1 c1 => (op_eqlB rfl rfl (by kernel_rfl))) (fun h16 => ?_) (fun h16 => ?_)
   ·refine qa 1 ((28, .bool true) :: _) rfl ?_
    refine wq_call 29 (by kernel_rfl) (fun w1 c1 => op_call (by kernel_rfl)) (fun w1 c1 => (m_exampleHolds_ok N w1  (hs_tab ht c1) r14 (h15 (by rw [h16] <;> rfl))).mono (fun _ _ ⟨_, hx, hu⟩ => ⟨hx, c1.call hu⟩)) ?_
    refine qa 2 ((2, .bool _) :: (30, .bool _) :: _) rfl ?_
    exact leaf_q (sub_out 13 _ rfl (by kernel_rfl) ⟨(congrArg Value.bool (by rw [h16] <;> rfl)), trivial⟩)
   ·refine qa 4 ((2, .bool false) :: (30, .bool false) :: (29, undef) :: (28, .bool false) :: _) rfl ?_
    exact leaf_q (sub_out 13 _ rfl (by kernel_rfl) ⟨(congrArg Value.bool (by rw [h16] <;> rfl)), trivial⟩)
  refine xm_next ?_
  refine cm_ret ?_
  exact xm_retT rfl (by kernel_rfl) (show _ = Value.bool _ from rfl) fun w1 c1 => ⟨(), rfl, hsub [] (by kernel_rfl) rfl w1 c1⟩
end Go.Proofs.YtbnimhmoffchdaaDoor
