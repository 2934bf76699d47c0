/- Models of functions, and that the code follows them. Written by deco.py. -/
import Derived.Test.YtbnimhmoffchdaaGreatDoorZM1
import Derived.Test.YtbnimhmoffchdaaGreatDoorDMade
import Derived.Test.YtbnimhmoffchdaaGreatDoorATab
namespace Go.Proofs.YtbnimhmoffchdaaGreatDoor
open Go.RowKit
set_option linter.unusedSectionVars false
variable [JF]

/-- recyclinglaw59.AuditMade -/
def m_recyclinglaw59_AuditMade (N : Nat) (p0 : ApiAccount) (p1 : Int) (p2 : ApiWindow) : Option (Bool) :=
 (if ((decide (60 < (List.length p0.Emptyings : Int))) || (decide (60 < (List.length p0.Assigns : Int)))) = true then
  Option.bind (m_exampleHolds N) fun r9 => some (r9)
 else
  Option.bind (m_bill_Make N p0 (1 : Int) p1 p2) fun a => callIf ((!(decide (a.2 ≠ 0))) = true) (m_recyclingref54_Check N p0) fun d => (if (((decide (a.2 ≠ 0)) || (decide (d ≠ 0))) || (decide (512 < (List.length a.1.Items : Int)))) = true then
   Option.bind (m_exampleHolds N) fun e => some (e)
  else
   Option.bind (m_audit_Bills N (ApiBooks.mk 0 p0 ([] : List ApiTransfer) 0 0 ([] : List ApiBale) ([] : List ApiProduct) ([] : List ApiSale) ([] : List ApiClaim) ([] : List ApiPayout) ([] : List Int) ([] : List ApiFee) [a.1] ([] : List ApiPosting))) fun b => callIf (((decide (b.2 = 0)) && (decide ((List.length b.1 : Int) = 0))) = true) (m_exampleHolds N) fun f => some ((((decide (b.2 = 0)) && (decide ((List.length b.1 : Int) = 0))) && f))))
set_option maxHeartbeats 2000000 in
set_option maxRecDepth 20000 in
theorem m_recyclinglaw59_AuditMade_ok (N : Nat) (w0 : World) (p0 : ApiAccount) (p1 : Int) (p2 : ApiWindow) (b : Option Addr) (j : Nat) (l : Nat) (d : Option Addr) (m : Nat) (o : Nat) (e : Option Addr) (q : Nat) (t : Nat) (f : Option Addr) (y : Nat) (B : Nat) (g : Option Addr) (C : Nat) (G : Nat) (L : RdE w0 2 encApiHousehold b p0.Households) (M : SW b j l (List.length p0.Households)) (O : RdE w0 5 encApiContainer d p0.Containers) (Q : SW d m o (List.length p0.Containers)) (U : RdE w0 4 encApiAssign e p0.Assigns) (J : SW e q t (List.length p0.Assigns)) (X : RdE w0 7 encApiEmptying f p0.Emptyings) (K : SW f y B (List.length p0.Emptyings)) (Y : RdE w0 5 encApiTariff g p0.Tariffs) (Z : SW g C G (List.length p0.Tariffs)) (ht : Tab w0) (r : Bool) (hr : m_recyclinglaw59_AuditMade N p0 p1 p2 = some r) :
  Ret Tryz.prog 4 [.agg #[.slice b j l, .slice d m o, .slice e q t, .slice f y B, .slice g C G, .int .i64 p0.Gap], .int .i64 p1, .agg #[.int .i64 p2.From, .int .i64 p2.To]] w0 (fun (r : Bool) (_u : Unit) => .bool r) (fun (_r : Bool) (_u : Unit) => []) r := by
 refine calls_v (n := 61) r hr Tryz.func4 ?_
 unfold m_recyclinglaw59_AuditMade
 refine sr <| lm_box 3 [.slice _ _ _, .slice _ _ _, .slice _ _ _, .slice _ _ _, .slice _ _ _, .int .i64 _] (by kernel_rfl) rfl ?_
 intro b5
 refine lm_box 5 [.int .i64 _, .int .i64 _] (by kernel_rfl) rfl ?_
 intro b6
 refine la 1 ((6, .bool false) :: _) rfl <| nn <| cm_seq <| cm_seq <| cm_cutE [(20, .bool ((decide (60 < (List.length p0.Emptyings : Int))) || (decide (60 < (List.length p0.Assigns : Int)))))] ?_ ?_
 ·refine q_ 11 (fun _ _ => oF 3 3 rfl) <| q_ 12 (fun _ c1 => oL (c1.cell 1 (u := .slice _ _ _) rfl rfl)) <| q_ 13 (fun _ _ => op_lenN rfl (by kernel_rfl) K.2.2) <| qd 14 (fun _ _ => op_gtr rfl rfl) (fun h7 => ?_) (fun h7 => ?_)
  ·refine qa 6 ((20, .bool true) :: (19, undef) :: (18, undef) :: (17, undef) :: (16, undef) :: (15, .bool true) :: _) rfl ?_
   exact leaf_q (sub_out 10 _ rfl (by kernel_rfl) ⟨(congrArg Value.bool (by rw [decide_eq_true h7] <;> rfl)), trivial⟩)
  ·refine qa 1 ((15, .bool false) :: _) rfl <| q_ 16 (fun _ _ => oF 2 2 rfl) <| q_ 17 (fun _ c1 => oL (c1.cell 1 (u := .slice _ _ _) rfl rfl)) <| q_ 18 (fun _ _ => op_lenN rfl (by kernel_rfl) J.2.2) <| qa 2 ((20, .bool _) :: (19, .bool _) :: _) rfl ?_
   exact leaf_q (sub_out 10 _ rfl (by kernel_rfl) ⟨(congrArg Value.bool (by rw [decide_eq_false h7] <;> rfl)), trivial⟩)
 refine xm_next <| cm_condB (by kernel_rfl) rfl (fun h8 => ?_) (fun h8 => ?_)
 ·refine sr <| lm_call 21 (V := (fun (r : Bool) (_u : Unit) => .bool r)) (HR := (fun (_r : Bool) (_u : Unit) => [])) (by kernel_rfl) (fun w1 => op_call (by kernel_rfl)) (fun r1 hr1 w1 c1 => m_exampleHolds_ok N w1  (hs_tab ht c1) r1 hr1) ?_
  intro r9 ae
  refine la 1 ((6, .bool _) :: _) rfl <| nn <| cm_ret <| xm_thenR ?_
  exact xm_retT rfl (by kernel_rfl) (show _ = Value.bool _ from rfl) fun w1 c1 => ⟨(), rfl, hsub [] (by kernel_rfl) rfl w1 c1⟩
 ·refine sk <| sr <| v_ 23 (fun _ c1 => oR [.slice _ _ _, .slice _ _ _, .slice _ _ _, .slice _ _ _, .slice _ _ _, .int .i64 _] (c1.cells 1 rfl rfl)) <| la 1 ((24, .int .i64 _) :: _) rfl <| v_ 25 (fun _ c1 => oR [.int .i64 _, .int .i64 _] (c1.cells 0 rfl rfl)) <| lm_call 26 (V := (fun (r : ApiBill × Int) (u : (Option Addr) × Nat × Nat) => .tuple #[.agg #[.int .i64 r.1.ID, .int .i64 r.1.Household, .int .i64 r.1.When.From, .int .i64 r.1.When.To, .slice u.1 u.2.1 u.2.2, .int .i64 r.1.Total], .int .i64 r.2])) (HR := (fun (r : ApiBill × Int) (u : (Option Addr) × Nat × Nat) => [ownE 100 5 encApiItem u.1 u.2.1 u.2.2 r.1.Items])) (by kernel_rfl) (fun w1 => op_call (by kernel_rfl)) (fun r1 hr1 w1 c1 => m_bill_Make_ok N w1 p0 (1 : Int) p1 p2 b j l d m o e q t f y B g C G (L.old c1) M (O.old c1) Q (U.old c1) J (X.old c1) K (Y.old c1) Z r1 hr1) ?_
  intro a2 a
  refine la 3 ((28, .int .i64 _) :: (27, .agg _) :: (22, .tuple _) :: _) rfl <| lm_alloc 7 [.int .i64 0, .int .i64 0, .int .i64 0, .int .i64 0, .slice none 0 0, .int .i64 0] (v := .agg #[.int .i64 0, .int .i64 0, .int .i64 0, .int .i64 0, .slice none 0 0, .int .i64 0]) (by kernel_rfl) (by kernel_rfl) rfl ?_
  intro af
  refine lm_storeA 0 [.int .i64 _, .int .i64 _, .int .i64 _, .int .i64 _, .slice _ _ _, .int .i64 _] [_, _, _, _, _, _] (H' := [blkE _ _ [_, _, _, _, _, _], _, _, _]) (by kernel_rfl) rfl rfl (by kernel_rfl) rfl rfl (by kernel_rfl) rfl rfl <| la 1 ((8, .int .i64 _) :: _) rfl <| nn <| cm_seq <| cm_seq <| cm_callIf fun a8 ab => cm_cutE [(41, .bool (((decide (a2.2 ≠ 0)) || (decide (a8 ≠ 0))) || (decide (512 < (List.length a2.1.Items : Int)))))] ?_ ?_
  ·refine qa 1 ((29, .int .i64 _) :: _) rfl <| qd 30 (fun _ _ => op_neq rfl rfl) (fun a0 => ?_) (fun a0 => ?_)
   ·refine qa 11 ((41, .bool true) :: (40, undef) :: (39, undef) :: (38, undef) :: (37, undef) :: (36, .bool true) :: (35, .bool true) :: (34, undef) :: (33, undef) :: (32, undef) :: (31, .bool true) :: _) rfl ?_
    exact leaf_q (sub_out 13 _ rfl (by kernel_rfl) ⟨(congrArg Value.bool (by rw [decide_eq_true a0] <;> rfl)), trivial⟩)
   ·refine qa 1 ((31, .bool false) :: _) rfl <| q_ 32 (fun _ c1 => oR [.slice _ _ _, .slice _ _ _, .slice _ _ _, .slice _ _ _, .slice _ _ _, .int .i64 _] (c1.cells 3 rfl rfl)) <| wq_call 33 (by kernel_rfl) (fun w1 c1 => op_call (by kernel_rfl)) (fun w1 c1 => (m_recyclingref54_Check_ok N w1 p0 b j l d m o e q t f y B g C G (L.old c1) M (O.old c1) Q (U.old c1) J (X.old c1) K (Y.old c1) Z a8 (ab (by rw [decide_eq_false a0] <;> rfl))).mono (fun _ _ ⟨_, hx, hu⟩ => ⟨hx, c1.call hu⟩)) <| qd 34 (fun _ _ => op_neq rfl rfl) (fun a4 => ?_) (fun a4 => ?_)
    ·refine qa 7 ((41, .bool true) :: (40, undef) :: (39, undef) :: (38, undef) :: (37, undef) :: (36, .bool true) :: (35, .bool true) :: _) rfl ?_
     exact leaf_q (sub_out 13 _ rfl (by kernel_rfl) ⟨(congrArg Value.bool (by rw [decide_eq_false a0, decide_eq_true a4] <;> rfl)), trivial⟩)
    ·refine qa 2 ((36, .bool false) :: (35, .bool false) :: _) rfl <| q_ 37 (fun _ _ => oF 4 4 rfl) <| q_ 38 (fun _ c1 => oL (c1.cell 0 (u := .slice _ _ _) rfl rfl)) <| q_ 39 (fun _ c1 => op_lenN rfl (by kernel_rfl) (c1.ownZ 1 rfl).2.2) <| qa 2 ((41, .bool _) :: (40, .bool _) :: _) rfl ?_
     exact leaf_q (sub_out 13 _ rfl (by kernel_rfl) ⟨(congrArg Value.bool (by rw [decide_eq_false a0, decide_eq_false a4] <;> rfl)), trivial⟩)
  refine xm_next <| cm_condB (by kernel_rfl) rfl (fun ac => ?_) (fun ac => ?_)
  ·refine sr <| lm_call 42 (V := (fun (r : Bool) (_u : Unit) => .bool r)) (HR := (fun (_r : Bool) (_u : Unit) => [])) (by kernel_rfl) (fun w1 => op_call (by kernel_rfl)) (fun r1 hr1 w1 c1 => m_exampleHolds_ok N w1  (hs_tab ht c1) r1 hr1) ?_
   intro ag ah
   refine la 1 ((6, .bool _) :: _) rfl <| nn <| cm_ret <| xm_thenR ?_
   exact xm_retT rfl (by kernel_rfl) (show _ = Value.bool _ from rfl) fun w1 c1 => ⟨(), rfl, hsub [] (by kernel_rfl) rfl w1 c1⟩
  ·refine sk <| sr <| v_ 44 (fun _ c1 => oR [.slice _ _ _, .slice _ _ _, .slice _ _ _, .slice _ _ _, .slice _ _ _, .int .i64 _] (c1.cells 3 rfl rfl)) <| v_ 45 (fun _ c1 => oR [.int .i64 _, .int .i64 _, .int .i64 _, .int .i64 _, .slice _ _ _, .int .i64 _] (c1.cells 0 rfl rfl)) <| lm_slice1 46 (el := 52) (sz := 6) (bytes := 64) (enc := (fun (x : ApiBill) => encApiBill x (a.1, a.2.1, a.2.2))) a2.1 (by kernel_rfl) (by kernel_rfl) (fun _ => rfl) rfl (by kernel_rfl) ?_
   intro a5 a6 a7 ai
   refine v_ 47 (fun _ _ => op_build (z := [.int .i64 0, .slice none 0 0, .slice none 0 0, .slice none 0 0, .slice none 0 0, .slice none 0 0, .int .i64 0, .slice none 0 0, .int .i64 0, .int .i64 0, .slice none 0 0, .slice none 0 0, .slice none 0 0, .slice none 0 0, .slice none 0 0, .slice none 0 0, .slice none 0 0, .slice none 0 0, .slice none 0 0]) (tab := [(0, 1), (1, 6), (7, 1), (8, 1), (9, 1), (10, 1), (11, 1), (12, 1), (13, 1), (14, 1), (15, 1), (16, 1), (17, 1), (18, 1)]) (cs := [.int .i64 0, .slice b j l, .slice d m o, .slice e q t, .slice f y B, .slice g C G, .int .i64 p0.Gap, .slice none 0 0, .int .i64 0, .int .i64 0, .slice none 0 0, .slice none 0 0, .slice none 0 0, .slice none 0 0, .slice none 0 0, .slice none 0 0, .slice none 0 0, .slice a5 a6 a7, .slice none 0 0]) [(1, [.slice b j l, .slice d m o, .slice e q t, .slice f y B, .slice g C G, .int .i64 p0.Gap]), (17, [.slice a5 a6 a7])] (by kernel_rfl) (by kernel_rfl) (fillOk_cons rfl rfl rfl (fillOk_cons rfl rfl rfl fillOk_nil)) rfl) <| lm_call 48 (V := (fun (r : (List ApiFinding) × Int) (u : (Option Addr) × Nat × Nat) => .tuple #[.slice u.1 u.2.1 u.2.2, .int .i64 r.2])) (HR := (fun (r : (List ApiFinding) × Int) (u : (Option Addr) × Nat × Nat) => [ownE 64 3 encApiFinding u.1 u.2.1 u.2.2 r.1])) (by kernel_rfl) (fun w1 => op_call (by kernel_rfl)) (fun r1 hr1 w1 c1 => m_audit_Bills_ok N w1 (ApiBooks.mk 0 p0 ([] : List ApiTransfer) 0 0 ([] : List ApiBale) ([] : List ApiProduct) ([] : List ApiSale) ([] : List ApiClaim) ([] : List ApiPayout) ([] : List Int) ([] : List ApiFee) [a2.1] ([] : List ApiPosting)) b j l d m o e q t f y B g C G none 0 0 none 0 0 (fun _ => (none, 0, 0)) none 0 0 none 0 0 none 0 0 none 0 0 none 0 0 none 0 0 a5 a6 a7 (fun _ => (a.1, a.2.1, a.2.2)) none 0 0 (fun _ => (none, 0, 0)) (L.old c1) M (O.old c1) Q (U.old c1) J (X.old c1) K (Y.old c1) Z RdE.nil SW.nil RdI.nil SW.nil (fun i hi => absurd hi.2 (Int.not_lt.2 hi.1)) RdE.nil SW.nil RdE.nil SW.nil RdE.nil SW.nil RdE.nil SW.nil RdE.nil SW.nil RdE.nil SW.nil (RdI.one rfl (c1.own 0 rfl (fun _ => rfl))) (c1.ownZ 0 rfl) (nst_one (P := fun (x : ApiBill) (i : Int) => RdE w1 5 encApiItem ((fun _ => (a.1, a.2.1, a.2.2)) i).1 x.Items ∧ SW ((fun _ => (a.1, a.2.1, a.2.2)) i).1 ((fun _ => (a.1, a.2.1, a.2.2)) i).2.1 ((fun _ => (a.1, a.2.1, a.2.2)) i).2.2 (List.length x.Items)) fun _ => ⟨(c1.own 2 rfl encApiItem_len), (c1.ownZ 2 rfl)⟩) RdI.nil SW.nil (fun i hi => absurd hi.2 (Int.not_lt.2 hi.1)) r1 hr1) ?_
   intro a9 aj
   refine la 5 ((10, .int .i64 _) :: (9, .slice _ _ _) :: (50, .int .i64 _) :: (49, .slice _ _ _) :: (43, .tuple _) :: _) rfl <| nn <| cm_seq <| cm_callIf fun aa ad => cm_cutE [(6, .bool (((decide (a9.2 = 0)) && (decide ((List.length a9.1 : Int) = 0))) && aa))] ?_ ?_
   ·refine qa 1 ((51, .int .i64 _) :: _) rfl <| qd 52 (fun _ _ => op_eql rfl rfl) (fun a1 => ?_) (fun a1 => ?_)
    ·refine qa 2 ((54, .slice _ _ _) :: (53, .bool true) :: _) rfl <| q_ 55 (fun _ c1 => op_lenN rfl (by kernel_rfl) (c1.ownZ 0 rfl).2.2) <| qd 56 (fun _ _ => op_eql rfl rfl) (fun a3 => ?_) (fun a3 => ?_)
     ·refine qa 2 ((58, .bool true) :: (57, .bool true) :: _) rfl <| wq_call 59 (by kernel_rfl) (fun w1 c1 => op_call (by kernel_rfl)) (fun w1 c1 => (m_exampleHolds_ok N w1  (hs_tab ht c1) aa (ad (by rw [decide_eq_true a1, decide_eq_true a3] <;> rfl))).mono (fun _ _ ⟨_, hx, hu⟩ => ⟨hx, c1.call hu⟩)) <| qa 2 ((6, .bool _) :: (60, .bool _) :: _) rfl ?_
      exact leaf_q (sub_out 11 _ rfl (by kernel_rfl) ⟨(congrArg Value.bool (by rw [decide_eq_true a1, decide_eq_true a3] <;> rfl)), trivial⟩)
     ·refine qa 5 ((6, .bool false) :: (60, .bool false) :: (59, undef) :: (58, .bool false) :: (57, .bool false) :: _) rfl ?_
      exact leaf_q (sub_out 11 _ rfl (by kernel_rfl) ⟨(congrArg Value.bool (by rw [decide_eq_true a1, decide_eq_false a3] <;> rfl)), trivial⟩)
    ·refine qa 9 ((6, .bool false) :: (60, .bool false) :: (59, undef) :: (58, .bool false) :: (57, .bool false) :: (56, undef) :: (55, undef) :: (54, undef) :: (53, .bool false) :: _) rfl ?_
     exact leaf_q (sub_out 11 _ rfl (by kernel_rfl) ⟨(congrArg Value.bool (by rw [decide_eq_false a1] <;> rfl)), trivial⟩)
   refine xm_next <| cm_ret ?_
   exact xm_retT rfl (by kernel_rfl) (show _ = Value.bool _ from rfl) fun w1 c1 => ⟨(), rfl, hsub [] (by kernel_rfl) rfl w1 c1⟩
end Go.Proofs.YtbnimhmoffchdaaGreatDoor
