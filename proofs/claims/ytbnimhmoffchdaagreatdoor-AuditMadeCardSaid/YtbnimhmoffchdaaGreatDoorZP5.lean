/- Models of functions, and that the code follows them. Written by deco.py. -/
import Derived.Test.YtbnimhmoffchdaaGreatDoorZP4
namespace Go.Proofs.YtbnimhmoffchdaaGreatDoor
open Go.RowKit
set_option linter.unusedSectionVars false
variable [JF]

structure AuditInvoice where
 Bill : ApiBill
 account_ : ApiAccount
 base_ : (List ApiItem)
 counted_ : (List Int)
 found_ : Unit
deriving Inhabited
theorem op_eqApiItem {e : Env} {w : World} {d : Option Tmp} {ty : TypeId} {ps : String} {af : Array Edge} {g : Option (Nat × Bool)} {x y : Operand} (a b : ApiItem) (hx : eev e x = .agg (encApiItem a).toArray) (hy : eev e y = .agg (encApiItem b).toArray) : OpV Tryz.prog e w ⟨d, .binOp .eql 100 x y 100, ty, ps, af, g⟩ (.bool (decide (a = b))) :=
 op_eqFlat (cs := encApiItem a) (ds := encApiItem b) hx hy Tryz.underlying100 (by kernel_rfl) (by kernel_rfl) (by kernel_rfl) (by cases a; cases b; simp [celsEq, celEq, encApiItem])
theorem op_neApiItem {e : Env} {w : World} {d : Option Tmp} {ty : TypeId} {ps : String} {af : Array Edge} {g : Option (Nat × Bool)} {x y : Operand} (a b : ApiItem) (hx : eev e x = .agg (encApiItem a).toArray) (hy : eev e y = .agg (encApiItem b).toArray) : OpV Tryz.prog e w ⟨d, .binOp .neq 100 x y 100, ty, ps, af, g⟩ (.bool (decide (a ≠ b))) := by
 have h := op_neqFlat (t' := 100) (d := d) (ty := ty) (ps := ps) (af := af) (g := g) (w := w) (cs := encApiItem a) (ds := encApiItem b) (b := decide (a = b)) hx hy Tryz.underlying100 (by kernel_rfl) (by kernel_rfl) (by kernel_rfl) (by cases a; cases b; simp [celsEq, celEq, encApiItem])
 rwa [← decide_not] at h
/-- (*audit.invoice).moments -/
def m_audit_invoice_moments (_N : Nat) (p0 : AuditInvoice) : Option (ApiWindow) :=
 ck (I64 (p0.Bill.When.From * (86400 : Int))) (
  ck (I64 (p0.Bill.When.To * (86400 : Int))) (
   some ((ApiWindow.mk (p0.Bill.When.From * (86400 : Int)) (p0.Bill.When.To * (86400 : Int))))))
set_option maxRecDepth 20000 in
theorem m_audit_invoice_moments_ok (N : Nat) (w0 : World) (p0 : AuditInvoice) (Y : Nat) (b : Option Addr) (o : Nat) (q : Nat) (d : Option Addr) (t : Nat) (x : Nat) (e : Option Addr) (y : Nat) (B : Nat) (f : Option Addr) (C : Nat) (G : Nat) (g : Option Addr) (J : Nat) (K : Nat) (i : Option Addr) (L : Nat) (M : Nat) (j : Option Addr) (O : Nat) (Q : Nat) (l : Option Addr) (U : Nat) (V : Nat) (f_p09 : Value) (X : Blk w0 Y 74 [.int .i64 p0.Bill.ID, .int .i64 p0.Bill.Household, .int .i64 p0.Bill.When.From, .int .i64 p0.Bill.When.To, .slice b o q, .int .i64 p0.Bill.Total, .slice d t x, .slice e y B, .slice f C G, .slice g J K, .slice i L M, .int .i64 p0.account_.Gap, .slice j O Q, .slice l U V, f_p09]) (_hr_p01 : RdE w0 5 encApiItem b p0.Bill.Items) (_hz_p01 : SW b o q (List.length p0.Bill.Items)) (_hr_p02 : RdE w0 2 encApiHousehold d p0.account_.Households) (_hz_p02 : SW d t x (List.length p0.account_.Households)) (_hr_p03 : RdE w0 5 encApiContainer e p0.account_.Containers) (_hz_p03 : SW e y B (List.length p0.account_.Containers)) (_hr_p04 : RdE w0 4 encApiAssign f p0.account_.Assigns) (_hz_p04 : SW f C G (List.length p0.account_.Assigns)) (_hr_p05 : RdE w0 7 encApiEmptying g p0.account_.Emptyings) (_hz_p05 : SW g J K (List.length p0.account_.Emptyings)) (_hr_p06 : RdE w0 5 encApiTariff i p0.account_.Tariffs) (_hz_p06 : SW i L M (List.length p0.account_.Tariffs)) (_hr_p07 : RdE w0 5 encApiItem j p0.base_) (_hz_p07 : SW j O Q (List.length p0.base_)) (_hr_p08 : RdE w0 1 encI l p0.counted_) (_hz_p08 : SW l U V (List.length p0.counted_)) (r : ApiWindow) (hr : m_audit_invoice_moments N p0 = some r) :
  Ret Tryz.prog 25 [.pointer (some ⟨Y, 0, none⟩)] w0 (fun (r : ApiWindow) (_u : Unit) => .agg #[.int .i64 r.From, .int .i64 r.To]) (fun (_r : ApiWindow) (_u : Unit) => []) r := by
 refine calls_v (n := 18) r hr Tryz.func25 ?_
 unfold m_audit_invoice_moments
 refine sr <| lm_alloc 2 [.int .i64 0, .int .i64 0] (v := .agg #[.int .i64 0, .int .i64 0]) (by kernel_rfl) (by kernel_rfl) rfl ?_
 intro b5
 refine nn <| cm_seq <| cm_ck (fun h6 => ?_)
 refine cm_ck (fun h7 => ?_)
 refine cm_held (ξ := Unit) (fun Z => [(2, .pointer (some ⟨b5, 0, none⟩))]) (fun Z => [blkE b5 49 [.int .i64 (p0.Bill.When.From * (86400 : Int)), .int .i64 (p0.Bill.When.To * (86400 : Int))]]) [] 16 (by kernel_rfl) (by rfl) (hsub [] (by kernel_rfl) (by rfl)) ?_ ?_
 ·intro a1 a
  refine wh_take 0 3 rfl (by kernel_rfl) (by kernel_rfl) (fun w2 c2 => (op_move (v := .pointer (some ⟨_, _, _⟩)) rfl)) (hsub [] (by kernel_rfl) rfl _ a) <| wh_take 1 4 rfl (by kernel_rfl) (by kernel_rfl) (fun w2 c2 => (op_nilCheck rfl)) (hsub [] (by kernel_rfl) rfl _ a) <| wh_take 2 5 rfl (by kernel_rfl) (by kernel_rfl) (fun w2 c2 => (op_fieldL (m := 0) (k := 0) rfl (by kernel_rfl) rfl)) (hsub [] (by kernel_rfl) rfl _ a) <| wh_take 3 6 rfl (by kernel_rfl) (by kernel_rfl) (fun w2 c2 => (op_fieldL (m := 2) (k := 2) rfl (by kernel_rfl) rfl)) (hsub [] (by kernel_rfl) rfl _ a) <| wh_take 4 7 rfl (by kernel_rfl) (by kernel_rfl) (fun w2 c2 => (op_fieldL (m := 0) (k := 2) rfl (by kernel_rfl) rfl)) (hsub [] (by kernel_rfl) rfl _ a) <| wh_take 5 8 rfl (by kernel_rfl) (by kernel_rfl) (fun w2 c2 => (op_load rfl (by kernel_rfl) (c2.ocell (X.at_ 2 (u := .int .i64 _) rfl)))) (hsub [] (by kernel_rfl) rfl _ a) <| wh_take 6 9 rfl (by kernel_rfl) (by kernel_rfl) (fun w2 c2 => (op_mul rfl rfl h6)) (hsub [] (by kernel_rfl) rfl _ a) <| wh_take 7 10 rfl (by kernel_rfl) (by kernel_rfl) (fun w2 c2 => (op_move (v := .pointer (some ⟨_, _, _⟩)) rfl)) (hsub [] (by kernel_rfl) rfl _ a) <| wh_take 8 11 rfl (by kernel_rfl) (by kernel_rfl) (fun w2 c2 => (op_nilCheck rfl)) (hsub [] (by kernel_rfl) rfl _ a) <| wh_take 9 12 rfl (by kernel_rfl) (by kernel_rfl) (fun w2 c2 => (op_fieldL (m := 0) (k := 0) rfl (by kernel_rfl) rfl)) (hsub [] (by kernel_rfl) rfl _ a) <| wh_take 10 13 rfl (by kernel_rfl) (by kernel_rfl) (fun w2 c2 => (op_fieldL (m := 2) (k := 2) rfl (by kernel_rfl) rfl)) (hsub [] (by kernel_rfl) rfl _ a) <| wh_take 11 14 rfl (by kernel_rfl) (by kernel_rfl) (fun w2 c2 => (op_fieldL (m := 1) (k := 3) rfl (by kernel_rfl) rfl)) (hsub [] (by kernel_rfl) rfl _ a) ?_
  refine wh_take 12 15 rfl (by kernel_rfl) (by kernel_rfl) (fun w2 c2 => (op_load rfl (by kernel_rfl) (c2.ocell (X.at_ 3 (u := .int .i64 _) rfl)))) (hsub [] (by kernel_rfl) rfl _ a) <| wh_take 13 16 rfl (by kernel_rfl) (by kernel_rfl) (fun w2 c2 => (op_mul rfl rfl h7)) (hsub [] (by kernel_rfl) rfl _ a) <| wh_take 14 17 rfl (by kernel_rfl) (by kernel_rfl) (fun w2 c2 => (op_build (z := [.int .i64 0, .int .i64 0]) (tab := [(0, 1), (1, 1)]) (cs := [.int .i64 _, .int .i64 _]) [(0, [.int .i64 _]), (1, [.int .i64 _])] (by kernel_rfl) (by kernel_rfl) (fillOk_cons rfl rfl rfl (fillOk_cons rfl rfl rfl fillOk_nil)) rfl)) (hsub [] (by kernel_rfl) rfl _ a) <| wh_ready [15] (by kernel_rfl) rfl ⟨?_, trivial⟩
  refine ws_storeA 0 [.int .i64 _, .int .i64 _] [_, _] rfl (by kernel_rfl) rfl rfl (by kernel_rfl) rfl rfl (by kernel_rfl) rfl (H' := [blkE _ _ [_, _]]) rfl a ?_
  intro a2 a0
  refine ⟨(hsub [] (by kernel_rfl) rfl _ a0), ?_⟩
  exact wh_done () (by kernel_rfl) sq (hsub [0] (by kernel_rfl) rfl _ a0)
 intro Z
 refine xm_next <| cm_ret ?_
 exact xm_retC rfl (by kernel_rfl) (show _ = Value.pointer (some ⟨_, 0, none⟩) from rfl) (by kernel_rfl) (fun w1 c1 => c1.cells 0 (ds := [.int .i64 _, .int .i64 _]) rfl rfl) fun w1 c1 => ⟨(), rfl, hsub [] (by kernel_rfl) rfl w1 c1⟩
/-- audit.valid -/
def m_audit_valid (_N : Nat) (p0 : ApiAccount) (p1 : ApiBill) : Option (Bool) :=
 some ((((((decide (0 ≤ p1.Household)) && (decide (p1.Household < (List.length p0.Households : Int)))) && (decide (0 ≤ p1.When.From))) && (decide (p1.When.From ≤ p1.When.To))) && (decide (p1.When.To ≤ 36525))))
set_option maxHeartbeats 2000000 in
set_option maxRecDepth 20000 in
theorem m_audit_valid_ok (N : Nat) (w0 : World) (p0 : ApiAccount) (p1 : ApiBill) (a : Option Addr) (i : Nat) (j : Nat) (b : Option Addr) (l : Nat) (m : Nat) (d : Option Addr) (o : Nat) (q : Nat) (e : Option Addr) (t : Nat) (v : Nat) (f : Option Addr) (x : Nat) (y : Nat) (g : Option Addr) (z : Nat) (B : Nat) (_hr_p01 : RdE w0 2 encApiHousehold a p0.Households) (C : SW a i j (List.length p0.Households)) (_hr_p02 : RdE w0 5 encApiContainer b p0.Containers) (_hz_p02 : SW b l m (List.length p0.Containers)) (_hr_p03 : RdE w0 4 encApiAssign d p0.Assigns) (_hz_p03 : SW d o q (List.length p0.Assigns)) (_hr_p04 : RdE w0 7 encApiEmptying e p0.Emptyings) (_hz_p04 : SW e t v (List.length p0.Emptyings)) (_hr_p05 : RdE w0 5 encApiTariff f p0.Tariffs) (_hz_p05 : SW f x y (List.length p0.Tariffs)) (_hr_p11 : RdE w0 5 encApiItem g p1.Items) (_hz_p11 : SW g z B (List.length p1.Items)) (r : Bool) (hr : m_audit_valid N p0 p1 = some r) :
  Ret Tryz.prog 22 [.agg #[.slice a i j, .slice b l m, .slice d o q, .slice e t v, .slice f x y, .int .i64 p0.Gap], .agg #[.int .i64 p1.ID, .int .i64 p1.Household, .int .i64 p1.When.From, .int .i64 p1.When.To, .slice g z B, .int .i64 p1.Total]] w0 (fun (r : Bool) (_u : Unit) => .bool r) (fun (_r : Bool) (_u : Unit) => []) r := by
 refine calls_v (n := 37) r hr Tryz.func22 ?_
 unfold m_audit_valid
 refine sr <| lm_box 2 [.slice _ _ _, .slice _ _ _, .slice _ _ _, .slice _ _ _, .slice _ _ _, .int .i64 _] (by kernel_rfl) rfl ?_
 intro b5
 refine lm_box 3 [.int .i64 _, .int .i64 _, .int .i64 _, .int .i64 _, .slice _ _ _, .int .i64 _] (by kernel_rfl) rfl ?_
 intro b6
 refine la 1 ((4, .bool false) :: _) rfl <| nn <| cm_seq <| cm_cutE [(4, .bool (((((decide (0 ≤ p1.Household)) && (decide (p1.Household < (List.length p0.Households : Int)))) && (decide (0 ≤ p1.When.From))) && (decide (p1.When.From ≤ p1.When.To))) && (decide (p1.When.To ≤ 36525))))] ?_ ?_
 ·refine q_ 5 (fun _ _ => oF 1 1 rfl) <| q_ 6 (fun _ c1 => oL (c1.cell 0 (u := .int .i64 _) rfl rfl)) <| qd 7 (fun _ _ => op_geq rfl rfl) (fun h7 => ?_) (fun h7 => ?_)
  ·refine qa 1 ((8, .bool true) :: _) rfl <| q_ 9 (fun _ _ => oF 1 1 rfl) <| q_ 10 (fun _ c1 => oL (c1.cell 0 (u := .int .i64 _) rfl rfl)) <| q_ 11 (fun _ _ => oF 0 0 rfl) <| q_ 12 (fun _ c1 => oL (c1.cell 1 (u := .slice _ _ _) rfl rfl)) <| q_ 13 (fun _ _ => op_lenN rfl (by kernel_rfl) C.2.2) <| qd 14 (fun _ _ => op_lss rfl rfl) (fun h8 => ?_) (fun h8 => ?_)
   ·refine qa 2 ((16, .bool true) :: (15, .bool true) :: _) rfl <| q_ 17 (fun _ _ => oF 2 2 rfl) <| q_ 18 (fun _ _ => oF 0 2 rfl) <| q_ 19 (fun _ c1 => oL (c1.cell 0 (u := .int .i64 _) rfl rfl)) <| qd 20 (fun _ _ => op_geq rfl rfl) (fun h9 => ?_) (fun h9 => ?_)
    ·refine qa 2 ((22, .bool true) :: (21, .bool true) :: _) rfl <| q_ 23 (fun _ _ => oF 2 2 rfl) <| q_ 24 (fun _ _ => oF 0 2 rfl) <| q_ 25 (fun _ c1 => oL (c1.cell 0 (u := .int .i64 _) rfl rfl)) <| q_ 26 (fun _ _ => oF 2 2 rfl) <| q_ 27 (fun _ _ => oF 1 3 rfl) <| q_ 28 (fun _ c1 => oL (c1.cell 0 (u := .int .i64 _) rfl rfl)) <| qd 29 (fun _ _ => op_leq rfl rfl) (fun G => ?_) (fun G => ?_)
     ·refine qa 2 ((31, .bool true) :: (30, .bool true) :: _) rfl <| q_ 32 (fun _ _ => oF 2 2 rfl) <| q_ 33 (fun _ _ => oF 1 3 rfl) <| q_ 34 (fun _ c1 => oL (c1.cell 0 (u := .int .i64 _) rfl rfl)) <| qa 3 ((4, .bool _) :: (36, .bool _) :: (35, .bool _) :: _) rfl ?_
      exact leaf_q (sub_out 33 _ rfl (by kernel_rfl) ⟨(congrArg Value.bool (by rw [decide_eq_true h7, decide_eq_true h8, decide_eq_true h9, decide_eq_true G] <;> rfl)), trivial⟩)
     ·refine qa 8 ((4, .bool false) :: (36, .bool false) :: (35, undef) :: (34, undef) :: (33, undef) :: (32, undef) :: (31, .bool false) :: (30, .bool false) :: _) rfl ?_
      exact leaf_q (sub_out 33 _ rfl (by kernel_rfl) ⟨(congrArg Value.bool (by rw [decide_eq_true h7, decide_eq_true h8, decide_eq_true h9, decide_eq_false G] <;> rfl)), trivial⟩)
    ·refine qa 17 ((4, .bool false) :: (36, .bool false) :: (35, undef) :: (34, undef) :: (33, undef) :: (32, undef) :: (31, .bool false) :: (30, .bool false) :: (29, undef) :: (28, undef) :: (27, undef) :: (26, undef) :: (25, undef) :: (24, undef) :: (23, undef) :: (22, .bool false) :: (21, .bool false) :: _) rfl ?_
     exact leaf_q (sub_out 33 _ rfl (by kernel_rfl) ⟨(congrArg Value.bool (by rw [decide_eq_true h7, decide_eq_true h8, decide_eq_false h9] <;> rfl)), trivial⟩)
   ·refine qa 23 ((4, .bool false) :: (36, .bool false) :: (35, undef) :: (34, undef) :: (33, undef) :: (32, undef) :: (31, .bool false) :: (30, .bool false) :: (29, undef) :: (28, undef) :: (27, undef) :: (26, undef) :: (25, undef) :: (24, undef) :: (23, undef) :: (22, .bool false) :: (21, .bool false) :: (20, undef) :: (19, undef) :: (18, undef) :: (17, undef) :: (16, .bool false) :: (15, .bool false) :: _) rfl ?_
    exact leaf_q (sub_out 33 _ rfl (by kernel_rfl) ⟨(congrArg Value.bool (by rw [decide_eq_true h7, decide_eq_false h8] <;> rfl)), trivial⟩)
  ·refine qa 30 ((4, .bool false) :: (36, .bool false) :: (35, undef) :: (34, undef) :: (33, undef) :: (32, undef) :: (31, .bool false) :: (30, .bool false) :: (29, undef) :: (28, undef) :: (27, undef) :: (26, undef) :: (25, undef) :: (24, undef) :: (23, undef) :: (22, .bool false) :: (21, .bool false) :: (20, undef) :: (19, undef) :: (18, undef) :: (17, undef) :: (16, .bool false) :: (15, .bool false) :: (14, undef) :: (13, undef) :: (12, undef) :: (11, undef) :: (10, undef) :: (9, undef) :: (8, .bool false) :: _) rfl ?_
   exact leaf_q (sub_out 33 _ rfl (by kernel_rfl) ⟨(congrArg Value.bool (by rw [decide_eq_false h7] <;> rfl)), trivial⟩)
 refine xm_next <| cm_ret ?_
 exact xm_retT rfl (by kernel_rfl) (show _ = Value.bool _ from rfl) fun w1 c1 => ⟨(), rfl, hsub [] (by kernel_rfl) rfl w1 c1⟩
/-- (*audit.invoice).record$1 -/
def m_audit_invoice_record_1 (_N : Nat) (p0 : ApiEmptying) (q0 : Int) : Option (Bool) :=
 some ((decide (p0.ID = q0)))
set_option maxRecDepth 20000 in
theorem m_audit_invoice_record_1_ok (N : Nat) (w0 : World) (p0 : ApiEmptying) (q0 : Int) (a : Nat) (b : Blk w0 a 3 [.int .i64 q0]) (r : Bool) (hr : m_audit_invoice_record_1 N p0 q0 = some r) :
  Ret Tryz.prog 125 [.agg #[.int .i64 p0.ID, .int .i64 p0.Container, .int .i64 p0.Vehicle, .int .i64 p0.At, .int .i64 p0.Mass.Lo, .int .i64 p0.Mass.Hi, .bool p0.Void], .pointer (some ⟨a, 0, none⟩)] w0 (fun (r : Bool) (_u : Unit) => .bool r) (fun (_r : Bool) (_u : Unit) => []) r := by
 refine calls_v (n := 8) r hr Tryz.func125 ?_
 unfold m_audit_invoice_record_1
 refine sr <| lm_box 2 [.int .i64 _, .int .i64 _, .int .i64 _, .int .i64 _, .int .i64 _, .int .i64 _, .bool _] (by kernel_rfl) rfl ?_
 intro b5
 refine la 1 ((3, .bool false) :: _) rfl <| nn <| sr <| v_ 4 (fun _ _ => oF 0 0 rfl) <| v_ 5 (fun _ c1 => oL (c1.cell 0 (u := .int .i64 _) rfl rfl)) <| v_ 6 (fun _ c1 => oL (c1.ocell (b.at_ 0 (u := .int .i64 _) rfl))) <| la 2 ((3, .bool _) :: (7, .bool _) :: _) rfl <| nn <| cm_ret ?_
 exact xm_retT rfl (by kernel_rfl) (show _ = Value.bool _ from rfl) fun w1 c1 => ⟨(), rfl, hsub [] (by kernel_rfl) rfl w1 c1⟩
/-- slices.IndexFunc -/
def m_slices_IndexFunc_audit_invoice_record_1 (N : Nat) (p0 : (List ApiEmptying)) (p1c0 : Int) : Option (Int) :=
 (andThen
  (loopM (fun (a : Int) =>
   (if a < (List.length p0 : Int) then
    ck ((0 : Int) ≤ a ∧ a < (List.length p0 : Int)) (
     Option.bind (m_audit_invoice_record_1 N (ix p0 a) p1c0) fun b => (if b = true then
      some (.done (.done (a)))
     else
      ck (I64 (a + (1 : Int))) (
       some (.next (a + (1 : Int))))))
   else
    some (.done (.next ())))) N (0 : Int))
 fun (_s29 : Unit) =>
  some ((-1 : Int)))
set_option maxRecDepth 20000 in
theorem m_slices_IndexFunc_audit_invoice_record_1_ok (N : Nat) (w0 : World) (p0 : (List ApiEmptying)) (p1c0 : Int) (d : Option Addr) (f : Nat) (g : Nat) (b : Nat) (i : RdE w0 7 encApiEmptying d p0) (j : SW d f g (List.length p0)) (l : Blk w0 b 3 [.int .i64 p1c0]) (r : Int) (hr : m_slices_IndexFunc_audit_invoice_record_1 N p0 p1c0 = some r) :
  Ret Tryz.prog 124 [.slice d f g, .func (.func 125) #[] #[.pointer (some ⟨b, 0, none⟩)]] w0 (fun (r : Int) (_u : Unit) => .int .i64 r) (fun (_r : Int) (_u : Unit) => []) r := by
 refine calls_v (n := 19) r hr Tryz.func124 ?_
 unfold m_slices_IndexFunc_audit_invoice_record_1
 refine sr <| la 1 ((4, .int .i64 _) :: _) rfl <| nn <| cm_join (σ := Unit) (ξ := Unit) (fun m o => []) (fun m o => []) ?_ ?_
 ·refine sr <| la 1 ((6, .slice _ _ _) :: _) rfl <| v_ 7 (fun _ _ => op_lenN rfl (by kernel_rfl) j.2.2) <| la 1 ((8, .int .i64 _) :: _) rfl <| nn <| cm_block <| cm_loop (σ := Int) (ξ := Unit) (fun a q => [(0, .slice d f g), (1, .func (.func 125) #[] #[.pointer (some ⟨b, 0, none⟩)]), (7, .int .i64 (List.length p0 : Int)), (8, .int .i64 a)]) (fun a q => []) () ?_ ?_ ?_
  ·exact sq
  ·exact sh []
  intro a q
  refine sr <| la 1 ((9, .bool _) :: _) rfl <| nn <| cm_seq <| cm_cond (by kernel_rfl) rfl (fun t => ?_) (fun t => ?_)
  ·refine sk <| cm_seq <| cm_block <| sr <| la 2 ((5, .int .i64 _) :: (10, .int .i64 _) :: _) rfl <| nn <| sr <| la 3 ((13, .int .i64 _) :: (12, .slice _ _ _) :: (11, .func _ _ _) :: _) rfl <| lm_ck (fun e => ?_)
   refine v_ 14 (fun _ c1 => oI 7 rfl rfl ((i.old c1).addr e.1 e.2) j.2.2 e) <| v_ 15 (fun _ c1 => oR [.int .i64 ((ix p0 a).ID), .int .i64 ((ix p0 a).Container), .int .i64 ((ix p0 a).Vehicle), .int .i64 ((ix p0 a).At), .int .i64 ((ix p0 a).Mass.Lo), .int .i64 ((ix p0 a).Mass.Hi), .bool ((ix p0 a).Void)] ((i.old c1).row e.1 e.2)) <| lm_call 16 (V := (fun (r : Bool) (_u : Unit) => .bool r)) (HR := (fun (_r : Bool) (_u : Unit) => [])) (by kernel_rfl) (fun w1 => op_callv rfl (by kernel_rfl)) (fun r1 hr1 w1 c1 => m_audit_invoice_record_1_ok N w1 (ix p0 a) p1c0 b (c1.oblk l) r1 hr1) ?_
   intro y z
   refine nn <| cm_condB (by kernel_rfl) rfl (fun v => ?_) (fun v => ?_)
   ·refine sr <| la 2 ((4, .int .i64 _) :: (17, .int .i64 _) :: _) rfl <| nn <| cm_ret <| xm_inR <| xm_thenR <| xm_lret <| xm_inR <| xm_lret ?_
    exact xm_retT rfl (by kernel_rfl) (show _ = Value.int .i64 _ from rfl) fun w1 c1 => ⟨(), rfl, hsub [] (by kernel_rfl) rfl w1 c1⟩
   ·refine cm_skip <| xm_inN <| xm_next <| cm_region <| lm_ck (fun x => ?_)
    refine v_ 18 (fun _ _ => op_add rfl rfl x) <| la 1 ((8, .int .i64 _) :: _) rfl <| lm_nil ?_
    exact xm_lnext () sq (sh [])
  ·refine cm_exit <| xm_thenE <| xm_lexit <| xm_here ?_
   exact xm_lnext () sub_nil (sh [])
 intro m o
 refine sr <| la 1 ((4, .int .i64 _) :: _) rfl <| nn <| cm_ret ?_
 exact xm_retT rfl (by kernel_rfl) (show _ = Value.int .i64 _ from rfl) fun w1 c1 => ⟨(), rfl, hsub [] (by kernel_rfl) rfl w1 c1⟩
/-- (*audit.invoice).record -/
def m_audit_invoice_record (N : Nat) (p0 : AuditInvoice) (p1 : Int) : Option (Int × Bool) :=
 Option.bind (m_slices_IndexFunc_audit_invoice_record_1 N p0.account_.Emptyings p1) fun r6 => (if r6 < 0 then
  some (((0 : Int), false))
 else
  ck ((0 : Int) ≤ r6 ∧ r6 < (List.length p0.account_.Emptyings : Int)) (
   Option.bind (m_audit_invoice_moments N (AuditInvoice.mk p0.Bill p0.account_ p0.base_ p0.counted_ ())) fun b => Option.bind (m_household_Owner N p0.account_.Assigns ((ix p0.account_.Emptyings r6).Container) ((ix p0.account_.Emptyings r6).At)) fun a => some ((r6, (((a.2 && (decide (a.1 = p0.Bill.Household))) && (decide (b.From ≤ (ix p0.account_.Emptyings r6).At))) && (decide ((ix p0.account_.Emptyings r6).At < b.To)))))))
set_option maxHeartbeats 2000000 in
set_option maxRecDepth 20000 in
theorem m_audit_invoice_record_ok (N : Nat) (w0 : World) (p0 : AuditInvoice) (p1 : Int) (a7 : Nat) (q : Option Addr) (Q : Nat) (U : Nat) (t : Option Addr) (X : Nat) (Y : Nat) (y : Option Addr) (Z : Nat) (a0 : Nat) (f : Option Addr) (z : Nat) (B : Nat) (g : Option Addr) (C : Nat) (G : Nat) (J : Option Addr) (a1 : Nat) (a2 : Nat) (K : Option Addr) (a3 : Nat) (a4 : Nat) (L : Option Addr) (a5 : Nat) (a6 : Nat) (f_p09 : Value) (i : Blk w0 a7 74 [.int .i64 p0.Bill.ID, .int .i64 p0.Bill.Household, .int .i64 p0.Bill.When.From, .int .i64 p0.Bill.When.To, .slice q Q U, .int .i64 p0.Bill.Total, .slice t X Y, .slice y Z a0, .slice f z B, .slice g C G, .slice J a1 a2, .int .i64 p0.account_.Gap, .slice K a3 a4, .slice L a5 a6, f_p09]) (a8 : RdE w0 5 encApiItem q p0.Bill.Items) (a9 : SW q Q U (List.length p0.Bill.Items)) (aa : RdE w0 2 encApiHousehold t p0.account_.Households) (ab : SW t X Y (List.length p0.account_.Households)) (ac : RdE w0 5 encApiContainer y p0.account_.Containers) (ad : SW y Z a0 (List.length p0.account_.Containers)) (M : RdE w0 4 encApiAssign f p0.account_.Assigns) (O : SW f z B (List.length p0.account_.Assigns)) (b : RdE w0 7 encApiEmptying g p0.account_.Emptyings) (j : SW g C G (List.length p0.account_.Emptyings)) (ae : RdE w0 5 encApiTariff J p0.account_.Tariffs) (af : SW J a1 a2 (List.length p0.account_.Tariffs)) (ag : RdE w0 5 encApiItem K p0.base_) (ah : SW K a3 a4 (List.length p0.base_)) (ai : RdE w0 1 encI L p0.counted_) (aj : SW L a5 a6 (List.length p0.counted_)) (r : Int × Bool) (hr : m_audit_invoice_record N p0 p1 = some r) :
  Ret Tryz.prog 72 [.pointer (some ⟨a7, 0, none⟩), .int .i64 p1] w0 (fun (r : Int × Bool) (_u : Unit) => .tuple #[.int .i64 r.1, .bool r.2]) (fun (_r : Int × Bool) (_u : Unit) => []) r := by
 refine calls_v (n := 68) r hr Tryz.func72 ?_
 unfold m_audit_invoice_record
 refine sr <| lm_box 3 [.int .i64 _] (by kernel_rfl) rfl ?_
 intro b5
 refine la 2 ((5, .bool false) :: (4, .int .i64 _) :: _) rfl <| nn <| sr <| la 1 ((11, .pointer (some ⟨_, _, _⟩)) :: _) rfl <| v_ 12 (fun _ _ => op_nilCheck rfl) <| v_ 13 (fun _ _ => oF 6 6 rfl) <| v_ 14 (fun _ _ => oF 3 9 rfl) <| v_ 15 (fun _ c1 => oL (c1.ocell (i.at_ 9 (u := .slice _ _ _) rfl))) <| v_ 16 (fun _ _ => op_makeFuncC [.pointer (some ⟨_, _, _⟩)] rfl) <| lm_call 17 (V := (fun (r : Int) (_u : Unit) => .int .i64 r)) (HR := (fun (_r : Int) (_u : Unit) => [])) (by kernel_rfl) (fun w1 => op_call (by kernel_rfl)) (fun r1 hr1 w1 c1 => m_slices_IndexFunc_audit_invoice_record_1_ok N w1 p0.account_.Emptyings p1 g C G b5 (b.old c1) j (c1.blk 0 rfl) r1 hr1) ?_
 intro r6 u7
 refine la 1 ((6, .int .i64 _) :: _) rfl <| nn <| cm_seq <| sr <| la 2 ((19, .bool _) :: (18, .int .i64 _) :: _) rfl <| nn <| cm_cond (by kernel_rfl) rfl (fun h8 => ?_) (fun h8 => ?_)
 ·refine sr <| la 2 ((5, .bool false) :: (4, .int .i64 _) :: _) rfl <| nn <| cm_ret <| xm_thenR ?_
  exact xm_retTT rfl (by kernel_rfl) (show _ = Value.int .i64 _ from rfl) (by kernel_rfl) (show _ = Value.bool false from rfl) fun w1 c1 => ⟨(), rfl, hsub [] (by kernel_rfl) rfl w1 c1⟩
 ·refine sk <| cm_seq <| cm_ck (fun h9 => ?_)
  refine cm_bind fun ak av => cm_held (ξ := Nat × Nat) (fun an => [(0, .pointer (some ⟨a7, 0, none⟩)), (6, .int .i64 r6), (7, .pointer (some ⟨an.1, 0, none⟩)), (8, .pointer (some ⟨an.2, 0, none⟩))]) (fun an => [blkE an.1 117 [.int .i64 ((ix p0.account_.Emptyings r6).ID), .int .i64 ((ix p0.account_.Emptyings r6).Container), .int .i64 ((ix p0.account_.Emptyings r6).Vehicle), .int .i64 ((ix p0.account_.Emptyings r6).At), .int .i64 ((ix p0.account_.Emptyings r6).Mass.Lo), .int .i64 ((ix p0.account_.Emptyings r6).Mass.Hi), .bool ((ix p0.account_.Emptyings r6).Void)], blkE an.2 49 [.int .i64 ak.From, .int .i64 ak.To]]) [blkE b5 3 [.int .i64 p1]] 14 (by kernel_rfl) (by rfl) (hsub [0] (by kernel_rfl) (by rfl)) ?_ ?_
  ·intro co a
   refine wh_take 0 20 rfl (by kernel_rfl) (by kernel_rfl) (fun w2 c2 => (op_move (v := .pointer (some ⟨_, _, _⟩)) rfl)) (hsub [0] (by kernel_rfl) rfl _ a) <| wh_take 1 21 rfl (by kernel_rfl) (by kernel_rfl) (fun w2 c2 => (op_nilCheck rfl)) (hsub [0] (by kernel_rfl) rfl _ a) <| wh_take 2 22 rfl (by kernel_rfl) (by kernel_rfl) (fun w2 c2 => (op_fieldL (m := 6) (k := 6) rfl (by kernel_rfl) rfl)) (hsub [0] (by kernel_rfl) rfl _ a) <| wh_take 3 23 rfl (by kernel_rfl) (by kernel_rfl) (fun w2 c2 => (op_fieldL (m := 3) (k := 9) rfl (by kernel_rfl) rfl)) (hsub [0] (by kernel_rfl) rfl _ a) <| wh_take 4 24 rfl (by kernel_rfl) (by kernel_rfl) (fun w2 c2 => (op_load rfl (by kernel_rfl) (c2.ocell (i.at_ 9 (u := .slice _ _ _) rfl)))) (hsub [0] (by kernel_rfl) rfl _ a) <| wh_take 5 25 rfl (by kernel_rfl) (by kernel_rfl) (fun w2 c2 => (op_move (v := .int .i64 _) rfl)) (hsub [0] (by kernel_rfl) rfl _ a) <| wh_take 6 26 rfl (by kernel_rfl) (by kernel_rfl) (fun w2 c2 => (op_indexA 7 rfl rfl (by kernel_rfl) ((b.old c2).addr h9.1 h9.2) j.2.2 h9.1 h9.2)) (hsub [0] (by kernel_rfl) rfl _ a) <| wh_take 7 27 rfl (by kernel_rfl) (by kernel_rfl) (fun w2 c2 => (op_loadR [.int .i64 ((ix p0.account_.Emptyings r6).ID), .int .i64 ((ix p0.account_.Emptyings r6).Container), .int .i64 ((ix p0.account_.Emptyings r6).Vehicle), .int .i64 ((ix p0.account_.Emptyings r6).At), .int .i64 ((ix p0.account_.Emptyings r6).Mass.Lo), .int .i64 ((ix p0.account_.Emptyings r6).Mass.Hi), .bool ((ix p0.account_.Emptyings r6).Void)] rfl (by kernel_rfl) ((b.old c2).row h9.1 h9.2))) (hsub [0] (by kernel_rfl) rfl _ a) <| wh_take 8 28 rfl (by kernel_rfl) (by kernel_rfl) (fun w2 c2 => (op_move (v := .pointer (some ⟨_, _, _⟩)) rfl)) (hsub [0] (by kernel_rfl) rfl _ a) <| wh_ready [9, 10, 11] (by kernel_rfl) rfl ⟨?_, ?_, ?_, trivial⟩
   ·refine ws_call 29 rfl (by kernel_rfl) (op_call (by kernel_rfl)) (m_audit_invoice_moments_ok N _ (AuditInvoice.mk p0.Bill p0.account_ p0.base_ p0.counted_ ()) a7 q Q U t X Y y Z a0 f z B g C G J a1 a2 K a3 a4 L a5 a6 f_p09 (a.oblk i) (a8.old a) a9 (aa.old a) ab (ac.old a) ad (M.old a) O (b.old a) j (ae.old a) af (ag.old a) ah (ai.old a) aj ak av) ?_
    rintro x cp ⟨cq, rfl, aw⟩
    replace aw := a.call aw
    refine ⟨_, rfl, (hsub [0] (by kernel_rfl) rfl _ aw), ?_⟩
    refine wh_ready [10, 11] (by kernel_rfl) rfl ⟨?_, ?_, trivial⟩
    ·refine ws_alloc 7 [.int .i64 0, .int .i64 0, .int .i64 0, .int .i64 0, .int .i64 0, .int .i64 0, .bool false] (v := .agg #[.int .i64 0, .int .i64 0, .int .i64 0, .int .i64 0, .int .i64 0, .int .i64 0, .bool false]) rfl (by kernel_rfl) (by kernel_rfl) rfl aw ?_
     intro br cr ay
     refine ⟨(hsub [1] (by kernel_rfl) rfl _ ay), ?_⟩
     refine wh_ready [11] (by kernel_rfl) rfl ⟨?_, trivial⟩
     refine ws_alloc 8 [.int .i64 0, .int .i64 0] (v := .agg #[.int .i64 0, .int .i64 0]) rfl (by kernel_rfl) (by kernel_rfl) rfl ay ?_
     intro bj bs az
     refine ⟨(hsub [2] (by kernel_rfl) rfl _ az), ?_⟩
     refine wh_ready [12] (by kernel_rfl) rfl ⟨?_, trivial⟩
     refine ws_storeA 1 [.int .i64 _, .int .i64 _, .int .i64 _, .int .i64 _, .int .i64 _, .int .i64 _, .bool _] [_, _, _, _, _, _, _] rfl (by kernel_rfl) rfl rfl (by kernel_rfl) rfl rfl (by kernel_rfl) rfl (H' := [_, blkE _ _ [_, _, _, _, _, _, _], _]) rfl az ?_
     intro bt b0
     refine ⟨(hsub [2] (by kernel_rfl) rfl _ b0), ?_⟩
     refine wh_ready [13] (by kernel_rfl) rfl ⟨?_, trivial⟩
     refine ws_storeA 0 [.int .i64 _, .int .i64 _] [_, _] rfl (by kernel_rfl) rfl rfl (by kernel_rfl) rfl rfl (by kernel_rfl) rfl (H' := [blkE _ _ [_, _], _, _]) rfl b0 ?_
     intro bu b1
     refine ⟨(hsub [2] (by kernel_rfl) rfl _ b1), ?_⟩
     exact wh_done (br, bj) (by kernel_rfl) sq (hsub [1, 0] (by kernel_rfl) rfl _ b1)
    ·refine ws_alloc 8 [.int .i64 0, .int .i64 0] (v := .agg #[.int .i64 0, .int .i64 0]) rfl (by kernel_rfl) (by kernel_rfl) rfl aw ?_
     intro bk bv b2
     refine ⟨(hsub [1] (by kernel_rfl) rfl _ b2), ?_⟩
     refine wh_ready [10] (by kernel_rfl) rfl ⟨?_, trivial⟩
     refine ws_alloc 7 [.int .i64 0, .int .i64 0, .int .i64 0, .int .i64 0, .int .i64 0, .int .i64 0, .bool false] (v := .agg #[.int .i64 0, .int .i64 0, .int .i64 0, .int .i64 0, .int .i64 0, .int .i64 0, .bool false]) rfl (by kernel_rfl) (by kernel_rfl) rfl b2 ?_
     intro bl bw b3
     refine ⟨(hsub [2] (by kernel_rfl) rfl _ b3), ?_⟩
     refine wh_ready [12] (by kernel_rfl) rfl ⟨?_, trivial⟩
     refine ws_storeA 0 [.int .i64 _, .int .i64 _, .int .i64 _, .int .i64 _, .int .i64 _, .int .i64 _, .bool _] [_, _, _, _, _, _, _] rfl (by kernel_rfl) rfl rfl (by kernel_rfl) rfl rfl (by kernel_rfl) rfl (H' := [blkE _ _ [_, _, _, _, _, _, _], _, _]) rfl b3 ?_
     intro bx b4
     refine ⟨(hsub [2] (by kernel_rfl) rfl _ b4), ?_⟩
     refine wh_ready [13] (by kernel_rfl) rfl ⟨?_, trivial⟩
     refine ws_storeA 1 [.int .i64 _, .int .i64 _] [_, _] rfl (by kernel_rfl) rfl rfl (by kernel_rfl) rfl rfl (by kernel_rfl) rfl (H' := [_, blkE _ _ [_, _], _]) rfl b4 ?_
     intro bz b6
     refine ⟨(hsub [2] (by kernel_rfl) rfl _ b6), ?_⟩
     exact wh_done (bl, bk) (by kernel_rfl) sq (hsub [0, 1] (by kernel_rfl) rfl _ b6)
   ·refine ws_alloc 7 [.int .i64 0, .int .i64 0, .int .i64 0, .int .i64 0, .int .i64 0, .int .i64 0, .bool false] (v := .agg #[.int .i64 0, .int .i64 0, .int .i64 0, .int .i64 0, .int .i64 0, .int .i64 0, .bool false]) rfl (by kernel_rfl) (by kernel_rfl) rfl a ?_
    intro b7 c0 d
    refine ⟨(hsub [1] (by kernel_rfl) rfl _ d), ?_⟩
    refine wh_ready [9, 11] (by kernel_rfl) rfl ⟨?_, ?_, trivial⟩
    ·refine ws_call 29 rfl (by kernel_rfl) (op_call (by kernel_rfl)) (m_audit_invoice_moments_ok N _ (AuditInvoice.mk p0.Bill p0.account_ p0.base_ p0.counted_ ()) a7 q Q U t X Y y Z a0 f z B g C G J a1 a2 K a3 a4 L a5 a6 f_p09 (d.oblk i) (a8.old d) a9 (aa.old d) ab (ac.old d) ad (M.old d) O (b.old d) j (ae.old d) af (ag.old d) ah (ai.old d) aj ak av) ?_
     rintro x c3 ⟨c4, rfl, ao⟩
     replace ao := d.call ao
     refine ⟨_, rfl, (hsub [1] (by kernel_rfl) rfl _ ao), ?_⟩
     refine wh_ready [11] (by kernel_rfl) rfl ⟨?_, trivial⟩
     refine ws_alloc 8 [.int .i64 0, .int .i64 0] (v := .agg #[.int .i64 0, .int .i64 0]) rfl (by kernel_rfl) (by kernel_rfl) rfl ao ?_
     intro bm c5 b8
     refine ⟨(hsub [2] (by kernel_rfl) rfl _ b8), ?_⟩
     refine wh_ready [12] (by kernel_rfl) rfl ⟨?_, trivial⟩
     refine ws_storeA 1 [.int .i64 _, .int .i64 _, .int .i64 _, .int .i64 _, .int .i64 _, .int .i64 _, .bool _] [_, _, _, _, _, _, _] rfl (by kernel_rfl) rfl rfl (by kernel_rfl) rfl rfl (by kernel_rfl) rfl (H' := [_, blkE _ _ [_, _, _, _, _, _, _], _]) rfl b8 ?_
     intro c6 b9
     refine ⟨(hsub [2] (by kernel_rfl) rfl _ b9), ?_⟩
     refine wh_ready [13] (by kernel_rfl) rfl ⟨?_, trivial⟩
     refine ws_storeA 0 [.int .i64 _, .int .i64 _] [_, _] rfl (by kernel_rfl) rfl rfl (by kernel_rfl) rfl rfl (by kernel_rfl) rfl (H' := [blkE _ _ [_, _], _, _]) rfl b9 ?_
     intro c7 ba
     refine ⟨(hsub [2] (by kernel_rfl) rfl _ ba), ?_⟩
     exact wh_done (b7, bm) (by kernel_rfl) sq (hsub [1, 0] (by kernel_rfl) rfl _ ba)
    ·refine ws_alloc 8 [.int .i64 0, .int .i64 0] (v := .agg #[.int .i64 0, .int .i64 0]) rfl (by kernel_rfl) (by kernel_rfl) rfl d ?_
     intro bn c8 l
     refine ⟨(hsub [2] (by kernel_rfl) rfl _ l), ?_⟩
     refine wh_ready [9] (by kernel_rfl) rfl ⟨?_, trivial⟩
     refine ws_call 29 rfl (by kernel_rfl) (op_call (by kernel_rfl)) (m_audit_invoice_moments_ok N _ (AuditInvoice.mk p0.Bill p0.account_ p0.base_ p0.counted_ ()) a7 q Q U t X Y y Z a0 f z B g C G J a1 a2 K a3 a4 L a5 a6 f_p09 (l.oblk i) (a8.old l) a9 (aa.old l) ab (ac.old l) ad (M.old l) O (b.old l) j (ae.old l) af (ag.old l) ah (ai.old l) aj ak av) ?_
     rintro x c9 ⟨ca, rfl, ap⟩
     replace ap := l.call ap
     refine ⟨_, rfl, (hsub [2] (by kernel_rfl) rfl _ ap), ?_⟩
     refine wh_ready [12] (by kernel_rfl) rfl ⟨?_, trivial⟩
     refine ws_storeA 1 [.int .i64 _, .int .i64 _, .int .i64 _, .int .i64 _, .int .i64 _, .int .i64 _, .bool _] [_, _, _, _, _, _, _] rfl (by kernel_rfl) rfl rfl (by kernel_rfl) rfl rfl (by kernel_rfl) rfl (H' := [_, blkE _ _ [_, _, _, _, _, _, _], _]) rfl ap ?_
     intro cb bb
     refine ⟨(hsub [2] (by kernel_rfl) rfl _ bb), ?_⟩
     refine wh_ready [13] (by kernel_rfl) rfl ⟨?_, trivial⟩
     refine ws_storeA 0 [.int .i64 _, .int .i64 _] [_, _] rfl (by kernel_rfl) rfl rfl (by kernel_rfl) rfl rfl (by kernel_rfl) rfl (H' := [blkE _ _ [_, _], _, _]) rfl bb ?_
     intro cc bc
     refine ⟨(hsub [2] (by kernel_rfl) rfl _ bc), ?_⟩
     exact wh_done (b7, bn) (by kernel_rfl) sq (hsub [1, 0] (by kernel_rfl) rfl _ bc)
   ·refine ws_alloc 8 [.int .i64 0, .int .i64 0] (v := .agg #[.int .i64 0, .int .i64 0]) rfl (by kernel_rfl) (by kernel_rfl) rfl a ?_
    intro bd cd e
    refine ⟨(hsub [1] (by kernel_rfl) rfl _ e), ?_⟩
    refine wh_ready [9, 10] (by kernel_rfl) rfl ⟨?_, ?_, trivial⟩
    ·refine ws_call 29 rfl (by kernel_rfl) (op_call (by kernel_rfl)) (m_audit_invoice_moments_ok N _ (AuditInvoice.mk p0.Bill p0.account_ p0.base_ p0.counted_ ()) a7 q Q U t X Y y Z a0 f z B g C G J a1 a2 K a3 a4 L a5 a6 f_p09 (e.oblk i) (a8.old e) a9 (aa.old e) ab (ac.old e) ad (M.old e) O (b.old e) j (ae.old e) af (ag.old e) ah (ai.old e) aj ak av) ?_
     rintro x ce ⟨cf, rfl, aq⟩
     replace aq := e.call aq
     refine ⟨_, rfl, (hsub [1] (by kernel_rfl) rfl _ aq), ?_⟩
     refine wh_ready [10] (by kernel_rfl) rfl ⟨?_, trivial⟩
     refine ws_alloc 7 [.int .i64 0, .int .i64 0, .int .i64 0, .int .i64 0, .int .i64 0, .int .i64 0, .bool false] (v := .agg #[.int .i64 0, .int .i64 0, .int .i64 0, .int .i64 0, .int .i64 0, .int .i64 0, .bool false]) rfl (by kernel_rfl) (by kernel_rfl) rfl aq ?_
     intro bo cg be
     refine ⟨(hsub [2] (by kernel_rfl) rfl _ be), ?_⟩
     refine wh_ready [12] (by kernel_rfl) rfl ⟨?_, trivial⟩
     refine ws_storeA 0 [.int .i64 _, .int .i64 _, .int .i64 _, .int .i64 _, .int .i64 _, .int .i64 _, .bool _] [_, _, _, _, _, _, _] rfl (by kernel_rfl) rfl rfl (by kernel_rfl) rfl rfl (by kernel_rfl) rfl (H' := [blkE _ _ [_, _, _, _, _, _, _], _, _]) rfl be ?_
     intro ch bf
     refine ⟨(hsub [2] (by kernel_rfl) rfl _ bf), ?_⟩
     refine wh_ready [13] (by kernel_rfl) rfl ⟨?_, trivial⟩
     refine ws_storeA 1 [.int .i64 _, .int .i64 _] [_, _] rfl (by kernel_rfl) rfl rfl (by kernel_rfl) rfl rfl (by kernel_rfl) rfl (H' := [_, blkE _ _ [_, _], _]) rfl bf ?_
     intro ci bg
     refine ⟨(hsub [2] (by kernel_rfl) rfl _ bg), ?_⟩
     exact wh_done (bo, bd) (by kernel_rfl) sq (hsub [0, 1] (by kernel_rfl) rfl _ bg)
    ·refine ws_alloc 7 [.int .i64 0, .int .i64 0, .int .i64 0, .int .i64 0, .int .i64 0, .int .i64 0, .bool false] (v := .agg #[.int .i64 0, .int .i64 0, .int .i64 0, .int .i64 0, .int .i64 0, .int .i64 0, .bool false]) rfl (by kernel_rfl) (by kernel_rfl) rfl e ?_
     intro bp cj o
     refine ⟨(hsub [2] (by kernel_rfl) rfl _ o), ?_⟩
     refine wh_ready [9] (by kernel_rfl) rfl ⟨?_, trivial⟩
     refine ws_call 29 rfl (by kernel_rfl) (op_call (by kernel_rfl)) (m_audit_invoice_moments_ok N _ (AuditInvoice.mk p0.Bill p0.account_ p0.base_ p0.counted_ ()) a7 q Q U t X Y y Z a0 f z B g C G J a1 a2 K a3 a4 L a5 a6 f_p09 (o.oblk i) (a8.old o) a9 (aa.old o) ab (ac.old o) ad (M.old o) O (b.old o) j (ae.old o) af (ag.old o) ah (ai.old o) aj ak av) ?_
     rintro x ck ⟨cl, rfl, ar⟩
     replace ar := o.call ar
     refine ⟨_, rfl, (hsub [2] (by kernel_rfl) rfl _ ar), ?_⟩
     refine wh_ready [12] (by kernel_rfl) rfl ⟨?_, trivial⟩
     refine ws_storeA 0 [.int .i64 _, .int .i64 _, .int .i64 _, .int .i64 _, .int .i64 _, .int .i64 _, .bool _] [_, _, _, _, _, _, _] rfl (by kernel_rfl) rfl rfl (by kernel_rfl) rfl rfl (by kernel_rfl) rfl (H' := [blkE _ _ [_, _, _, _, _, _, _], _, _]) rfl ar ?_
     intro cm bh
     refine ⟨(hsub [2] (by kernel_rfl) rfl _ bh), ?_⟩
     refine wh_ready [13] (by kernel_rfl) rfl ⟨?_, trivial⟩
     refine ws_storeA 1 [.int .i64 _, .int .i64 _] [_, _] rfl (by kernel_rfl) rfl rfl (by kernel_rfl) rfl rfl (by kernel_rfl) rfl (H' := [_, blkE _ _ [_, _], _]) rfl bh ?_
     intro cn bi
     refine ⟨(hsub [2] (by kernel_rfl) rfl _ bi), ?_⟩
     exact wh_done (bp, bd) (by kernel_rfl) sq (hsub [0, 1] (by kernel_rfl) rfl _ bi)
  intro an
  refine xm_next <| cm_seq <| cm_bind fun al bq => cm_drawn [(9, .int .i64 al.1), (10, .bool al.2)] (by kernel_rfl) (by kernel_rfl) ?_ ?_
  ·refine qa 1 ((31, .pointer (some ⟨_, _, _⟩)) :: _) rfl <| q_ 32 (fun _ _ => op_nilCheck rfl) <| q_ 33 (fun _ _ => oF 6 6 rfl) <| q_ 34 (fun _ _ => oF 2 8 rfl) <| q_ 35 (fun _ c1 => oL (c1.ocell (i.at_ 8 (u := .slice _ _ _) rfl))) <| q_ 36 (fun _ _ => oF 1 1 rfl) <| q_ 37 (fun _ c1 => oL (c1.cell 0 (u := .int .i64 _) rfl rfl)) <| q_ 38 (fun _ _ => oF 3 3 rfl) <| q_ 39 (fun _ c1 => oL (c1.cell 0 (u := .int .i64 _) rfl rfl)) <| wq_call 40 (by kernel_rfl) (fun w1 c1 => op_call (by kernel_rfl)) (fun w1 c1 => (m_household_Owner_ok N w1 p0.account_.Assigns ((ix p0.account_.Emptyings r6).Container) ((ix p0.account_.Emptyings r6).At) f z B (M.old c1) O al bq).mono (fun _ _ ⟨_, hx, hu⟩ => ⟨hx, c1.call hu⟩)) <| qa 5 ((10, .bool _) :: (9, .int .i64 _) :: (42, .bool _) :: (41, .int .i64 _) :: (30, .tuple _) :: _) rfl ?_
   exact lq 15
  refine xm_next <| cm_seq <| cm_drawn [(4, .int .i64 r6), (5, .bool (((al.2 && (decide (al.1 = p0.Bill.Household))) && (decide (ak.From ≤ (ix p0.account_.Emptyings r6).At))) && (decide ((ix p0.account_.Emptyings r6).At < ak.To))))] (by kernel_rfl) (by kernel_rfl) ?_ ?_
  ·refine qa 1 ((43, .int .i64 _) :: _) rfl <| wq_bool 44 (by kernel_rfl) (fun w1 c1 => (op_move (v := .bool _) rfl)) (fun am => ?_) (fun am => ?_)
   ·refine qa 3 ((47, .pointer (some ⟨_, _, _⟩)) :: (46, .int .i64 _) :: (45, .bool true) :: _) rfl <| q_ 48 (fun _ _ => op_nilCheck rfl) <| q_ 49 (fun _ _ => oF 0 0 rfl) <| q_ 50 (fun _ _ => oF 1 1 rfl) <| q_ 51 (fun _ c1 => oL (c1.ocell (i.at_ 1 (u := .int .i64 _) rfl))) <| qd 52 (fun _ _ => op_eql rfl rfl) (fun au => ?_) (fun au => ?_)
    ·refine qa 2 ((54, .bool true) :: (53, .bool true) :: _) rfl <| q_ 55 (fun _ _ => oF 0 0 rfl) <| q_ 56 (fun _ c1 => oL (c1.cell 1 (u := .int .i64 _) rfl rfl)) <| q_ 57 (fun _ _ => oF 3 3 rfl) <| q_ 58 (fun _ c1 => oL (c1.cell 0 (u := .int .i64 _) rfl rfl)) <| qd 59 (fun _ _ => op_leq rfl rfl) (fun ax => ?_) (fun ax => ?_)
     ·refine qa 2 ((61, .bool true) :: (60, .bool true) :: _) rfl <| q_ 62 (fun _ _ => oF 3 3 rfl) <| q_ 63 (fun _ c1 => oL (c1.cell 0 (u := .int .i64 _) rfl rfl)) <| q_ 64 (fun _ _ => oF 1 1 rfl) <| q_ 65 (fun _ c1 => oL (c1.cell 1 (u := .int .i64 _) rfl rfl)) <| qa 4 ((5, .bool _) :: (4, .int .i64 _) :: (67, .bool _) :: (66, .bool _) :: _) rfl ?_
      exact leaf_q (sub_out 27 _ rfl (by kernel_rfl) ⟨rfl, (congrArg Value.bool (by rw [am, decide_eq_true au, decide_eq_true ax] <;> rfl)), trivial⟩)
     ·refine qa 10 ((5, .bool false) :: (4, .int .i64 _) :: (67, .bool false) :: (66, undef) :: (65, undef) :: (64, undef) :: (63, undef) :: (62, undef) :: (61, .bool false) :: (60, .bool false) :: _) rfl ?_
      exact leaf_q (sub_out 27 _ rfl (by kernel_rfl) ⟨rfl, (congrArg Value.bool (by rw [am, decide_eq_true au, decide_eq_false ax] <;> rfl)), trivial⟩)
    ·refine qa 17 ((5, .bool false) :: (4, .int .i64 _) :: (67, .bool false) :: (66, undef) :: (65, undef) :: (64, undef) :: (63, undef) :: (62, undef) :: (61, .bool false) :: (60, .bool false) :: (59, undef) :: (58, undef) :: (57, undef) :: (56, undef) :: (55, undef) :: (54, .bool false) :: (53, .bool false) :: _) rfl ?_
     exact leaf_q (sub_out 27 _ rfl (by kernel_rfl) ⟨rfl, (congrArg Value.bool (by rw [am, decide_eq_false au] <;> rfl)), trivial⟩)
   ·refine qa 25 ((5, .bool false) :: (4, .int .i64 _) :: (67, .bool false) :: (66, undef) :: (65, undef) :: (64, undef) :: (63, undef) :: (62, undef) :: (61, .bool false) :: (60, .bool false) :: (59, undef) :: (58, undef) :: (57, undef) :: (56, undef) :: (55, undef) :: (54, .bool false) :: (53, .bool false) :: (52, undef) :: (51, undef) :: (50, undef) :: (49, undef) :: (48, undef) :: (47, undef) :: (46, undef) :: (45, .bool false) :: _) rfl ?_
    exact leaf_q (sub_out 27 _ rfl (by kernel_rfl) ⟨rfl, (congrArg Value.bool (by rw [am] <;> rfl)), trivial⟩)
  refine xm_next <| cm_ret ?_
  exact xm_retTT rfl (by kernel_rfl) (show _ = Value.int .i64 _ from rfl) (by kernel_rfl) (show _ = Value.bool _ from rfl) fun w1 c1 => ⟨(), rfl, hsub [] (by kernel_rfl) rfl w1 c1⟩
/-- slices.Index -/
def m_slices_Index (N : Nat) (p0 : (List ApiItem)) (p1 : ApiItem) : Option (Int) :=
 (andThen
  (loopM (fun (a : Int) =>
   (if a < (List.length p0 : Int) then
    ck ((0 : Int) ≤ a ∧ a < (List.length p0 : Int)) (
     (if p1 = (ix p0 a) then
      some (.done (.done (a)))
     else
      ck (I64 (a + (1 : Int))) (
       some (.next (a + (1 : Int))))))
   else
    some (.done (.next ())))) N (0 : Int))
 fun (_s24 : Unit) =>
  some ((-1 : Int)))
set_option maxRecDepth 20000 in
theorem m_slices_Index_ok (N : Nat) (w0 : World) (p0 : (List ApiItem)) (p1 : ApiItem) (b : Option Addr) (e : Nat) (f : Nat) (g : RdE w0 5 encApiItem b p0) (i : SW b e f (List.length p0)) (r : Int) (hr : m_slices_Index N p0 p1 = some r) :
  Ret Tryz.prog 122 [.slice b e f, .agg #[.int .i64 p1.Kind, .int .i64 p1.Ref, .int .i64 p1.Count, .int .i64 p1.Price, .int .i64 p1.Amount]] w0 (fun (r : Int) (_u : Unit) => .int .i64 r) (fun (_r : Int) (_u : Unit) => []) r := by
 refine calls_v (n := 19) r hr Tryz.func122 ?_
 unfold m_slices_Index
 refine sr <| lm_box 3 [.int .i64 _, .int .i64 _, .int .i64 _, .int .i64 _, .int .i64 _] (by kernel_rfl) rfl ?_
 intro b5
 refine la 1 ((4, .int .i64 _) :: _) rfl <| nn <| cm_join (σ := Unit) (ξ := Unit) (fun j l => []) (fun j l => []) ?_ ?_
 ·refine sr <| la 1 ((6, .slice _ _ _) :: _) rfl <| v_ 7 (fun _ _ => op_lenN rfl (by kernel_rfl) i.2.2) <| la 1 ((8, .int .i64 _) :: _) rfl <| nn <| cm_block <| cm_loop (σ := Int) (ξ := Unit) (fun a m => [(0, .slice b e f), (3, .pointer (some ⟨b5, 0, none⟩)), (7, .int .i64 (List.length p0 : Int)), (8, .int .i64 a)]) (fun a m => [blkE b5 100 [.int .i64 p1.Kind, .int .i64 p1.Ref, .int .i64 p1.Count, .int .i64 p1.Price, .int .i64 p1.Amount]]) () ?_ ?_ ?_
  ·exact sq
  ·exact sh [0]
  intro a m
  refine sr <| la 1 ((9, .bool _) :: _) rfl <| nn <| cm_seq <| cm_cond (by kernel_rfl) rfl (fun o => ?_) (fun o => ?_)
  ·refine sk <| cm_seq <| cm_block <| sr <| la 2 ((5, .int .i64 _) :: (10, .int .i64 _) :: _) rfl <| nn <| cm_seq <| cm_ck (fun d => ?_)
   refine cm_drawn [(16, .bool (decide (p1 = (ix p0 a))))] (by kernel_rfl) (by kernel_rfl) ?_ ?_
   ·refine q_ 11 (fun _ c1 => oR [.int .i64 _, .int .i64 _, .int .i64 _, .int .i64 _, .int .i64 _] (c1.cells 0 rfl rfl)) <| qa 2 ((13, .int .i64 _) :: (12, .slice _ _ _) :: _) rfl <| q_ 14 (fun _ c1 => oI 5 rfl rfl ((g.old c1).addr d.1 d.2) i.2.2 d) <| q_ 15 (fun _ c1 => oR [.int .i64 ((ix p0 a).Kind), .int .i64 ((ix p0 a).Ref), .int .i64 ((ix p0 a).Count), .int .i64 ((ix p0 a).Price), .int .i64 ((ix p0 a).Amount)] ((g.old c1).row d.1 d.2)) <| q_ 16 (fun _ _ => op_eqApiItem p1 (ix p0 a) rfl rfl) ?_
    exact lq 6
   refine xm_next <| cm_cond (by kernel_rfl) rfl (fun q => ?_) (fun q => ?_)
   ·refine sr <| la 2 ((4, .int .i64 _) :: (17, .int .i64 _) :: _) rfl <| nn <| cm_ret <| xm_inR <| xm_thenR <| xm_lret <| xm_inR <| xm_lret ?_
    exact xm_retT rfl (by kernel_rfl) (show _ = Value.int .i64 _ from rfl) fun w1 c1 => ⟨(), rfl, hsub [] (by kernel_rfl) rfl w1 c1⟩
   ·refine cm_skip <| xm_inN <| xm_next <| cm_region <| lm_ck (fun t => ?_)
    refine v_ 18 (fun _ _ => op_add rfl rfl t) <| la 1 ((8, .int .i64 _) :: _) rfl <| lm_nil ?_
    exact xm_lnext () sq (sh [0])
  ·refine cm_exit <| xm_thenE <| xm_lexit <| xm_here ?_
   exact xm_lnext () sub_nil (sh [])
 intro j l
 refine sr <| la 1 ((4, .int .i64 _) :: _) rfl <| nn <| cm_ret ?_
 exact xm_retT rfl (by kernel_rfl) (show _ = Value.int .i64 _ from rfl) fun w1 c1 => ⟨(), rfl, hsub [] (by kernel_rfl) rfl w1 c1⟩
/-- slices.Contains -/
def m_slices_Contains (N : Nat) (p0 : (List ApiItem)) (p1 : ApiItem) : Option (Bool) :=
 Option.bind (m_slices_Index N p0 p1) fun r6 => some ((decide (0 ≤ r6)))
set_option maxRecDepth 20000 in
theorem m_slices_Contains_ok (N : Nat) (w0 : World) (p0 : (List ApiItem)) (p1 : ApiItem) (a : Option Addr) (b : Nat) (d : Nat) (e : RdE w0 5 encApiItem a p0) (f : SW a b d (List.length p0)) (r : Bool) (hr : m_slices_Contains N p0 p1 = some r) :
  Ret Tryz.prog 70 [.slice a b d, .agg #[.int .i64 p1.Kind, .int .i64 p1.Ref, .int .i64 p1.Count, .int .i64 p1.Price, .int .i64 p1.Amount]] w0 (fun (r : Bool) (_u : Unit) => .bool r) (fun (_r : Bool) (_u : Unit) => []) r := by
 refine calls_v (n := 9) r hr Tryz.func70 ?_
 unfold m_slices_Contains
 refine sr <| lm_box 3 [.int .i64 _, .int .i64 _, .int .i64 _, .int .i64 _, .int .i64 _] (by kernel_rfl) rfl ?_
 intro b5
 refine la 1 ((4, .bool false) :: _) rfl <| nn <| sr <| la 1 ((5, .slice _ _ _) :: _) rfl <| v_ 6 (fun _ c1 => oR [.int .i64 _, .int .i64 _, .int .i64 _, .int .i64 _, .int .i64 _] (c1.cells 0 rfl rfl)) <| lm_call 7 (V := (fun (r : Int) (_u : Unit) => .int .i64 r)) (HR := (fun (_r : Int) (_u : Unit) => [])) (by kernel_rfl) (fun w1 => op_call (by kernel_rfl)) (fun r1 hr1 w1 c1 => m_slices_Index_ok N w1 p0 p1 a b d (e.old c1) f r1 hr1) ?_
 intro r6 u7
 refine la 2 ((4, .bool _) :: (8, .bool _) :: _) rfl <| nn <| cm_ret ?_
 exact xm_retT rfl (by kernel_rfl) (show _ = Value.bool _ from rfl) fun w1 c1 => ⟨(), rfl, hsub [] (by kernel_rfl) rfl w1 c1⟩
/-- (*audit.invoice).right -/
def m_audit_invoice_right (N : Nat) (p0 : AuditInvoice) (p1 : ApiItem) : Option (Bool) :=
 (if p1.Kind = 1 then
  Option.bind (m_slices_Contains N p0.base_ p1) fun r7 => some (r7)
 else
  (andThen
   (if p1.Kind = 2 then
    some (.next (decide (p1.Kind = 2)))
   else
    some (.next (decide (p1.Kind = 3))))
  fun (e : Bool) =>
   (if e = true then
    Option.bind (m_audit_invoice_record N (AuditInvoice.mk p0.Bill p0.account_ p0.base_ p0.counted_ ()) p1.Ref) fun a => (if (!a.2) = true then
     some (false)
    else
     ck ((0 : Int) ≤ a.1 ∧ a.1 < (List.length p0.account_.Emptyings : Int)) (
      ck (I64 ((ix p0.account_.Emptyings a.1).At)) (
       Option.bind (m_tariff_At N p0.account_.Tariffs (Int.tdiv ((ix p0.account_.Emptyings a.1).At) 86400)) fun b => (if b.2 ≠ 0 then
        some (false)
       else
        ck ((0 : Int) ≤ b.1 ∧ b.1 < (List.length p0.account_.Tariffs : Int)) (
         Option.bind (m_tariff_Items N (ix p0.account_.Tariffs b.1) (ix p0.account_.Emptyings a.1)) fun d => callIf (decide (d.2 = 0) = true) (m_slices_Contains N d.1 p1) fun f => some (((decide (d.2 = 0)) && f)))))))
   else
    (if p1.Kind = 4 then
     some ((decide (p1.Amount < 0)))
    else
     some (false)))))
set_option maxHeartbeats 2000000 in
set_option maxRecDepth 20000 in
theorem m_audit_invoice_right_ok (N : Nat) (w0 : World) (p0 : AuditInvoice) (p1 : ApiItem) (X : Nat) (o : Option Addr) (Y : Nat) (Z : Nat) (q : Option Addr) (a0 : Nat) (a1 : Nat) (t : Option Addr) (a2 : Nat) (a3 : Nat) (y : Option Addr) (a4 : Nat) (a5 : Nat) (z : Option Addr) (a6 : Nat) (a7 : Nat) (e : Option Addr) (B : Nat) (C : Nat) (f : Option Addr) (G : Nat) (J : Nat) (K : Option Addr) (a8 : Nat) (a9 : Nat) (f_p09 : Value) (g : Blk w0 X 74 [.int .i64 p0.Bill.ID, .int .i64 p0.Bill.Household, .int .i64 p0.Bill.When.From, .int .i64 p0.Bill.When.To, .slice o Y Z, .int .i64 p0.Bill.Total, .slice q a0 a1, .slice t a2 a3, .slice y a4 a5, .slice z a6 a7, .slice e B C, .int .i64 p0.account_.Gap, .slice f G J, .slice K a8 a9, f_p09]) (af : RdE w0 5 encApiItem o p0.Bill.Items) (ag : SW o Y Z (List.length p0.Bill.Items)) (ah : RdE w0 2 encApiHousehold q p0.account_.Households) (ai : SW q a0 a1 (List.length p0.account_.Households)) (aj : RdE w0 5 encApiContainer t p0.account_.Containers) (ak : SW t a2 a3 (List.length p0.account_.Containers)) (al : RdE w0 4 encApiAssign y p0.account_.Assigns) (am : SW y a4 a5 (List.length p0.account_.Assigns)) (L : RdE w0 7 encApiEmptying z p0.account_.Emptyings) (aa : SW z a6 a7 (List.length p0.account_.Emptyings)) (i : RdE w0 5 encApiTariff e p0.account_.Tariffs) (M : SW e B C (List.length p0.account_.Tariffs)) (ab : RdE w0 5 encApiItem f p0.base_) (ac : SW f G J (List.length p0.base_)) (an : RdE w0 1 encI K p0.counted_) (ao : SW K a8 a9 (List.length p0.counted_)) (r : Bool) (hr : m_audit_invoice_right N p0 p1 = some r) :
  Ret Tryz.prog 67 [.pointer (some ⟨X, 0, none⟩), .agg #[.int .i64 p1.Kind, .int .i64 p1.Ref, .int .i64 p1.Count, .int .i64 p1.Price, .int .i64 p1.Amount]] w0 (fun (r : Bool) (_u : Unit) => .bool r) (fun (_r : Bool) (_u : Unit) => []) r := by
 refine calls_v (n := 80) r hr Tryz.func67 ?_
 unfold m_audit_invoice_right
 refine sr <| lm_box 3 [.int .i64 _, .int .i64 _, .int .i64 _, .int .i64 _, .int .i64 _] (by kernel_rfl) rfl ?_
 intro b5
 refine la 1 ((4, .bool false) :: _) rfl <| nn <| cm_seq <| sr <| v_ 11 (fun _ _ => oF 0 0 rfl) <| v_ 12 (fun _ c1 => oL (c1.cell 0 (u := .int .i64 _) rfl rfl)) <| nn <| cm_block <| sr <| la 2 ((13, .bool _) :: (14, .bool _) :: _) rfl <| nn <| cm_cond (by kernel_rfl) rfl (fun h6 => ?_) (fun h6 => ?_)
 ·refine cm_seq <| cm_bind fun r7 h8 => cm_drawn [(4, .bool r7)] (by kernel_rfl) (by kernel_rfl) ?_ ?_
  ·refine qa 1 ((15, .pointer (some ⟨_, _, _⟩)) :: _) rfl <| q_ 16 (fun _ _ => op_nilCheck rfl) <| q_ 17 (fun _ _ => oF 12 12 rfl) <| q_ 18 (fun _ c1 => oL (c1.ocell (g.at_ 12 (u := .slice _ _ _) rfl))) <| q_ 19 (fun _ c1 => oR [.int .i64 _, .int .i64 _, .int .i64 _, .int .i64 _, .int .i64 _] (c1.cells 0 rfl rfl)) <| wq_call 20 (by kernel_rfl) (fun w1 c1 => op_call (by kernel_rfl)) (fun w1 c1 => (m_slices_Contains_ok N w1 p0.base_ p1 f G J (ab.old c1) ac r7 h8).mono (fun _ _ ⟨_, hx, hu⟩ => ⟨hx, c1.call hu⟩)) <| qa 1 ((4, .bool _) :: _) rfl ?_
   exact lq 7
  refine xm_next <| cm_ret <| xm_inR <| xm_thenR ?_
  exact xm_retT rfl (by kernel_rfl) (show _ = Value.bool _ from rfl) fun w1 c1 => ⟨(), rfl, hsub [] (by kernel_rfl) rfl w1 c1⟩
 ·refine cm_join (σ := Bool) (ξ := Unit) (fun ap aq => [(0, .pointer (some ⟨X, 0, none⟩)), (3, .pointer (some ⟨b5, 0, none⟩)), (12, .int .i64 p1.Kind), (21, .bool ap)]) (fun ap aq => [blkE b5 100 [.int .i64 p1.Kind, .int .i64 p1.Ref, .int .i64 p1.Count, .int .i64 p1.Price, .int .i64 p1.Amount]]) ?_ ?_
  ·refine sr <| la 2 ((21, .bool _) :: (22, .bool _) :: _) rfl <| nn <| cm_cond (by kernel_rfl) rfl (fun av => ?_) (fun av => ?_)
   ·refine cm_skip ?_
    exact xm_lnext () sq (sh [0])
   ·refine cm_region <| la 2 ((21, .bool _) :: (23, .bool _) :: _) rfl <| lm_nil ?_
    exact xm_lnext () sq (sh [0])
  intro ap aq
  refine cm_condB (by kernel_rfl) rfl (fun aw => ?_) (fun aw => ?_)
  ·refine sr <| la 1 ((25, .pointer (some ⟨_, _, _⟩)) :: _) rfl <| v_ 26 (fun _ _ => oF 1 1 rfl) <| v_ 27 (fun _ c1 => oL (c1.cell 0 (u := .int .i64 _) rfl rfl)) <| lm_call 28 (V := (fun (r : Int × Bool) (_u : Unit) => .tuple #[.int .i64 r.1, .bool r.2])) (HR := (fun (_r : Int × Bool) (_u : Unit) => [])) (by kernel_rfl) (fun w1 => op_call (by kernel_rfl)) (fun r1 hr1 w1 c1 => m_audit_invoice_record_ok N w1 (AuditInvoice.mk p0.Bill p0.account_ p0.base_ p0.counted_ ()) p1.Ref X o Y Z q a0 a1 t a2 a3 y a4 a5 z a6 a7 e B C f G J K a8 a9 f_p09 (c1.oblk g) (af.old c1) ag (ah.old c1) ai (aj.old c1) ak (al.old c1) am (L.old c1) aa (i.old c1) M (ab.old c1) ac (an.old c1) ao r1 hr1) ?_
   intro a b4
   refine la 5 ((6, .bool _) :: (5, .int .i64 _) :: (30, .bool _) :: (29, .int .i64 _) :: (24, .tuple _) :: _) rfl <| nn <| cm_seq <| sr <| la 2 ((32, .bool _) :: (31, .bool _) :: _) rfl <| nn <| cm_condB (by kernel_rfl) rfl (fun ax => ?_) (fun ax => ?_)
   ·refine sr <| la 1 ((4, .bool false) :: _) rfl <| nn <| cm_ret <| xm_thenR <| xm_inR <| xm_thenR ?_
    exact xm_retT rfl (by kernel_rfl) (show _ = Value.bool false from rfl) fun w1 c1 => ⟨(), rfl, hsub [] (by kernel_rfl) rfl w1 c1⟩
   ·refine sk <| sr <| la 1 ((33, .pointer (some ⟨_, _, _⟩)) :: _) rfl <| v_ 34 (fun _ _ => op_nilCheck rfl) <| v_ 35 (fun _ _ => oF 6 6 rfl) <| v_ 36 (fun _ _ => oF 3 9 rfl) <| v_ 37 (fun _ c1 => oL (c1.ocell (g.at_ 9 (u := .slice _ _ _) rfl))) <| la 1 ((38, .int .i64 _) :: _) rfl <| lm_ck (fun ad => ?_)
    refine v_ 39 (fun _ c1 => oI 7 rfl rfl ((L.old c1).addr ad.1 ad.2) aa.2.2 ad) <| v_ 40 (fun _ c1 => oR [.int .i64 ((ix p0.account_.Emptyings a.1).ID), .int .i64 ((ix p0.account_.Emptyings a.1).Container), .int .i64 ((ix p0.account_.Emptyings a.1).Vehicle), .int .i64 ((ix p0.account_.Emptyings a.1).At), .int .i64 ((ix p0.account_.Emptyings a.1).Mass.Lo), .int .i64 ((ix p0.account_.Emptyings a.1).Mass.Hi), .bool ((ix p0.account_.Emptyings a.1).Void)] ((L.old c1).row ad.1 ad.2)) <| lm_alloc 7 [.int .i64 0, .int .i64 0, .int .i64 0, .int .i64 0, .int .i64 0, .int .i64 0, .bool false] (v := .agg #[.int .i64 0, .int .i64 0, .int .i64 0, .int .i64 0, .int .i64 0, .int .i64 0, .bool false]) (by kernel_rfl) (by kernel_rfl) rfl ?_
    intro ar
    refine lm_storeA 0 [.int .i64 _, .int .i64 _, .int .i64 _, .int .i64 _, .int .i64 _, .int .i64 _, .bool _] [_, _, _, _, _, _, _] (H' := [blkE _ _ [_, _, _, _, _, _, _], _]) (by kernel_rfl) rfl rfl (by kernel_rfl) rfl rfl (by kernel_rfl) rfl rfl <| nn <| cm_seq <| cm_ck (fun ay => ?_)
    refine cm_bind fun j az => cm_drawn [(8, .int .i64 j.1), (9, .int .i64 j.2)] (by kernel_rfl) (by kernel_rfl) ?_ ?_
    ·refine qa 1 ((42, .pointer (some ⟨_, _, _⟩)) :: _) rfl <| q_ 43 (fun _ _ => op_nilCheck rfl) <| q_ 44 (fun _ _ => oF 6 6 rfl) <| q_ 45 (fun _ _ => oF 4 10 rfl) <| q_ 46 (fun _ c1 => oL (c1.ocell (g.at_ 10 (u := .slice _ _ _) rfl))) <| q_ 47 (fun _ _ => oF 3 3 rfl) <| q_ 48 (fun _ c1 => oL (c1.cell 0 (u := .int .i64 _) rfl rfl)) <| q_ 49 (fun _ _ => op_quoK rfl rfl (by kernel_rfl) ay) <| wq_call 50 (by kernel_rfl) (fun w1 c1 => op_call (by kernel_rfl)) (fun w1 c1 => (m_tariff_At_ok N w1 p0.account_.Tariffs (Int.tdiv ((ix p0.account_.Emptyings a.1).At) 86400) e B C (i.old c1) M j az).mono (fun _ _ ⟨_, hx, hu⟩ => ⟨hx, c1.call hu⟩)) <| qa 5 ((9, .int .i64 _) :: (8, .int .i64 _) :: (52, .int .i64 _) :: (51, .int .i64 _) :: (41, .tuple _) :: _) rfl ?_
     exact lq 14
    refine xm_next <| cm_seq <| sr <| la 2 ((54, .bool _) :: (53, .int .i64 _) :: _) rfl <| nn <| cm_cond (by kernel_rfl) rfl (fun b0 => ?_) (fun b0 => ?_)
    ·refine sr <| la 1 ((4, .bool false) :: _) rfl <| nn <| cm_ret <| xm_thenR <| xm_inR <| xm_thenR ?_
     exact xm_retT rfl (by kernel_rfl) (show _ = Value.bool false from rfl) fun w1 c1 => ⟨(), rfl, hsub [] (by kernel_rfl) rfl w1 c1⟩
    ·refine sk <| cm_seq <| cm_ck (fun O => ?_)
     refine cm_bind fun Q b1 => cm_held (ξ := (Option Addr) × Nat × Nat) (fun b => [(3, .pointer (some ⟨b5, 0, none⟩)), (9, .int .i64 Q.2), (10, .slice b.1 b.2.1 b.2.2)]) (fun b => [blkE b5 100 [.int .i64 p1.Kind, .int .i64 p1.Ref, .int .i64 p1.Count, .int .i64 p1.Price, .int .i64 p1.Amount], ownE 100 5 encApiItem b.1 b.2.1 b.2.2 Q.1]) [blkE ar 117 [.int .i64 ((ix p0.account_.Emptyings a.1).ID), .int .i64 ((ix p0.account_.Emptyings a.1).Container), .int .i64 ((ix p0.account_.Emptyings a.1).Vehicle), .int .i64 ((ix p0.account_.Emptyings a.1).At), .int .i64 ((ix p0.account_.Emptyings a.1).Mass.Lo), .int .i64 ((ix p0.account_.Emptyings a.1).Mass.Hi), .bool ((ix p0.account_.Emptyings a.1).Void)], blkE b5 100 [.int .i64 p1.Kind, .int .i64 p1.Ref, .int .i64 p1.Count, .int .i64 p1.Price, .int .i64 p1.Amount]] 15 (by kernel_rfl) (by rfl) (hsub [0, 1] (by kernel_rfl) (by rfl)) ?_ ?_
     ·intro b6 d
      refine wh_take 0 56 rfl (by kernel_rfl) (by kernel_rfl) (fun w2 c2 => (op_move (v := .pointer (some ⟨_, _, _⟩)) rfl)) (hsub [0, 1] (by kernel_rfl) rfl _ d) <| wh_take 1 57 rfl (by kernel_rfl) (by kernel_rfl) (fun w2 c2 => (op_nilCheck rfl)) (hsub [0, 1] (by kernel_rfl) rfl _ d) <| wh_take 2 58 rfl (by kernel_rfl) (by kernel_rfl) (fun w2 c2 => (op_fieldL (m := 6) (k := 6) rfl (by kernel_rfl) rfl)) (hsub [0, 1] (by kernel_rfl) rfl _ d) <| wh_take 3 59 rfl (by kernel_rfl) (by kernel_rfl) (fun w2 c2 => (op_fieldL (m := 4) (k := 10) rfl (by kernel_rfl) rfl)) (hsub [0, 1] (by kernel_rfl) rfl _ d) <| wh_take 4 60 rfl (by kernel_rfl) (by kernel_rfl) (fun w2 c2 => (op_load rfl (by kernel_rfl) (c2.ocell (g.at_ 10 (u := .slice _ _ _) rfl)))) (hsub [0, 1] (by kernel_rfl) rfl _ d) <| wh_take 5 61 rfl (by kernel_rfl) (by kernel_rfl) (fun w2 c2 => (op_move (v := .int .i64 _) rfl)) (hsub [0, 1] (by kernel_rfl) rfl _ d) <| wh_take 6 62 rfl (by kernel_rfl) (by kernel_rfl) (fun w2 c2 => (op_indexA 5 rfl rfl (by kernel_rfl) ((i.old c2).addr O.1 O.2) M.2.2 O.1 O.2)) (hsub [0, 1] (by kernel_rfl) rfl _ d) <| wh_take 7 63 rfl (by kernel_rfl) (by kernel_rfl) (fun w2 c2 => (op_loadR [.int .i64 ((ix p0.account_.Tariffs j.1).From), .int .i64 ((ix p0.account_.Tariffs j.1).Base), .int .i64 ((ix p0.account_.Tariffs j.1).Empty), .int .i64 ((ix p0.account_.Tariffs j.1).Kilo), .int .i64 ((ix p0.account_.Tariffs j.1).Free)] rfl (by kernel_rfl) ((i.old c2).row O.1 O.2))) (hsub [0, 1] (by kernel_rfl) rfl _ d) <| wh_take 8 64 rfl (by kernel_rfl) (by kernel_rfl) (fun w2 c2 => (op_loadR [.int .i64 _, .int .i64 _, .int .i64 _, .int .i64 _, .int .i64 _, .int .i64 _, .bool _] rfl (by kernel_rfl) (c2.cells 0 rfl rfl))) (hsub [0, 1] (by kernel_rfl) rfl _ d) <| wh_ready [9] (by kernel_rfl) rfl ⟨?_, trivial⟩
      refine ws_call 65 rfl (by kernel_rfl) (op_call (by kernel_rfl)) (m_tariff_Items_ok N _ (ix p0.account_.Tariffs j.1) (ix p0.account_.Emptyings a.1)  Q b1) ?_
      rintro x b7 ⟨U, rfl, l⟩
      replace l := d.call l
      refine ⟨_, rfl, (hsub [1, 2] (by kernel_rfl) rfl _ l), ?_⟩
      refine wh_strong (Hs w0 [ownE 100 5 encApiItem U.1 U.2.1 U.2.2 Q.1, blkE ar 117 [.int .i64 ((ix p0.account_.Emptyings a.1).ID), .int .i64 ((ix p0.account_.Emptyings a.1).Container), .int .i64 ((ix p0.account_.Emptyings a.1).Vehicle), .int .i64 ((ix p0.account_.Emptyings a.1).At), .int .i64 ((ix p0.account_.Emptyings a.1).Mass.Lo), .int .i64 ((ix p0.account_.Emptyings a.1).Mass.Hi), .bool ((ix p0.account_.Emptyings a.1).Void)], blkE b5 100 [.int .i64 p1.Kind, .int .i64 p1.Ref, .int .i64 p1.Count, .int .i64 p1.Price, .int .i64 p1.Amount]]) (fun w2 c2 => hsub [1, 2] (by kernel_rfl) rfl w2 c2) <| wh_take 10 55 rfl (by kernel_rfl) (by kernel_rfl) (fun w2 c2 => (op_move (v := .tuple _) rfl)) (hsub [0, 1, 2] (by kernel_rfl) rfl _ l) <| wh_take 11 66 rfl (by kernel_rfl) (by kernel_rfl) (fun w2 c2 => (op_extract (v := .slice _ _ _) rfl rfl)) (hsub [0, 1, 2] (by kernel_rfl) rfl _ l) <| wh_take 12 67 rfl (by kernel_rfl) (by kernel_rfl) (fun w2 c2 => (op_extract (v := .int .i64 _) rfl rfl)) (hsub [0, 1, 2] (by kernel_rfl) rfl _ l) <| wh_take 13 10 rfl (by kernel_rfl) (by kernel_rfl) (fun w2 c2 => (op_assign (v := .slice _ _ _) rfl)) (hsub [0, 1, 2] (by kernel_rfl) rfl _ l) <| wh_take 14 9 rfl (by kernel_rfl) (by kernel_rfl) (fun w2 c2 => (op_assign (v := .int .i64 _) rfl)) (hsub [0, 1, 2] (by kernel_rfl) rfl _ l) ?_
      exact wh_done (U.1, U.2.1, U.2.2) (by kernel_rfl) sq (hsub [2, 0] (by kernel_rfl) rfl _ l)
     intro b
     refine xm_next <| cm_seq <| cm_callIf fun au b2 => cm_cutE [(4, .bool ((decide (Q.2 = 0)) && au))] ?_ ?_
     ·refine qa 1 ((68, .int .i64 _) :: _) rfl <| qd 69 (fun _ _ => op_eql rfl rfl) (fun ae => ?_) (fun ae => ?_)
      ·refine qa 2 ((71, .slice _ _ _) :: (70, .bool true) :: _) rfl <| q_ 72 (fun _ c1 => oR [.int .i64 _, .int .i64 _, .int .i64 _, .int .i64 _, .int .i64 _] (c1.cells 0 rfl rfl)) <| wq_call 73 (by kernel_rfl) (fun w1 c1 => op_call (by kernel_rfl)) (fun w1 c1 => (m_slices_Contains_ok N w1 Q.1 p1 b.1 b.2.1 b.2.2 (c1.own 1 rfl encApiItem_len) (c1.ownZ 1 rfl) au (b2 (by rw [decide_eq_true ae] <;> rfl))).mono (fun _ _ ⟨_, hx, hu⟩ => ⟨hx, c1.call hu⟩)) <| qa 2 ((4, .bool _) :: (74, .bool _) :: _) rfl ?_
       exact leaf_q (sub_out 8 _ rfl (by kernel_rfl) ⟨(congrArg Value.bool (by rw [decide_eq_true ae] <;> rfl)), trivial⟩)
      ·refine qa 6 ((4, .bool false) :: (74, .bool false) :: (73, undef) :: (72, undef) :: (71, undef) :: (70, .bool false) :: _) rfl ?_
       exact leaf_q (sub_out 8 _ rfl (by kernel_rfl) ⟨(congrArg Value.bool (by rw [decide_eq_false ae] <;> rfl)), trivial⟩)
     refine xm_next <| cm_ret <| xm_inR <| xm_thenR ?_
     exact xm_retT rfl (by kernel_rfl) (show _ = Value.bool _ from rfl) fun w1 c1 => ⟨(), rfl, hsub [] (by kernel_rfl) rfl w1 c1⟩
  ·refine sr <| la 2 ((75, .bool _) :: (76, .bool _) :: _) rfl <| nn <| cm_cond (by kernel_rfl) rfl (fun b3 => ?_) (fun b3 => ?_)
   ·refine sr <| v_ 77 (fun _ _ => oF 4 4 rfl) <| v_ 78 (fun _ c1 => oL (c1.cell 0 (u := .int .i64 _) rfl rfl)) <| la 2 ((4, .bool _) :: (79, .bool _) :: _) rfl <| nn <| cm_ret <| xm_inR <| xm_thenR ?_
    exact xm_retT rfl (by kernel_rfl) (show _ = Value.bool _ from rfl) fun w1 c1 => ⟨(), rfl, hsub [] (by kernel_rfl) rfl w1 c1⟩
   ·refine cm_skip <| xm_inN <| xm_next <| sr <| la 1 ((4, .bool false) :: _) rfl <| nn <| cm_ret ?_
    exact xm_retT rfl (by kernel_rfl) (show _ = Value.bool false from rfl) fun w1 c1 => ⟨(), rfl, hsub [] (by kernel_rfl) rfl w1 c1⟩
/-- (*audit.invoice).balanced -/
def m_audit_invoice_balanced (N : Nat) (p0 : AuditInvoice) : Option (Bool) :=
 (andThen
  (loopM (fun (a : Int × Int) =>
   (if a.2 < (List.length p0.Bill.Items : Int) then
    ck ((0 : Int) ≤ a.2 ∧ a.2 < (List.length p0.Bill.Items : Int)) (
     (if ((decide ((ix p0.Bill.Items a.2).Amount < -1000000000000)) || (decide (1000000000000 < (ix p0.Bill.Items a.2).Amount))) = true then
      some (.done (.done (false)))
     else
      ck (I64 (a.1 + ((ix p0.Bill.Items a.2).Amount))) (
       ck (I64 (a.2 + (1 : Int))) (
        some (.next ((a.1 + ((ix p0.Bill.Items a.2).Amount)), (a.2 + (1 : Int))))))))
   else
    some (.done (.next a.1)))) N ((0 : Int), (0 : Int)))
 fun (b : Int) =>
  some ((decide (b = p0.Bill.Total))))
set_option maxHeartbeats 2000000 in
set_option maxRecDepth 20000 in
theorem m_audit_invoice_balanced_ok (N : Nat) (w0 : World) (p0 : AuditInvoice) (d : Nat) (b : Option Addr) (e : Nat) (f : Nat) (g : Option Addr) (z : Nat) (B : Nat) (i : Option Addr) (C : Nat) (G : Nat) (j : Option Addr) (J : Nat) (K : Nat) (l : Option Addr) (L : Nat) (M : Nat) (m : Option Addr) (O : Nat) (Q : Nat) (o : Option Addr) (U : Nat) (V : Nat) (q : Option Addr) (X : Nat) (Y : Nat) (f_p09 : Value) (Z : Blk w0 d 74 [.int .i64 p0.Bill.ID, .int .i64 p0.Bill.Household, .int .i64 p0.Bill.When.From, .int .i64 p0.Bill.When.To, .slice b e f, .int .i64 p0.Bill.Total, .slice g z B, .slice i C G, .slice j J K, .slice l L M, .slice m O Q, .int .i64 p0.account_.Gap, .slice o U V, .slice q X Y, f_p09]) (t : RdE w0 5 encApiItem b p0.Bill.Items) (x : SW b e f (List.length p0.Bill.Items)) (_hr_p02 : RdE w0 2 encApiHousehold g p0.account_.Households) (_hz_p02 : SW g z B (List.length p0.account_.Households)) (_hr_p03 : RdE w0 5 encApiContainer i p0.account_.Containers) (_hz_p03 : SW i C G (List.length p0.account_.Containers)) (_hr_p04 : RdE w0 4 encApiAssign j p0.account_.Assigns) (_hz_p04 : SW j J K (List.length p0.account_.Assigns)) (_hr_p05 : RdE w0 7 encApiEmptying l p0.account_.Emptyings) (_hz_p05 : SW l L M (List.length p0.account_.Emptyings)) (_hr_p06 : RdE w0 5 encApiTariff m p0.account_.Tariffs) (_hz_p06 : SW m O Q (List.length p0.account_.Tariffs)) (_hr_p07 : RdE w0 5 encApiItem o p0.base_) (_hz_p07 : SW o U V (List.length p0.base_)) (_hr_p08 : RdE w0 1 encI q p0.counted_) (_hz_p08 : SW q X Y (List.length p0.counted_)) (r : Bool) (hr : m_audit_invoice_balanced N p0 = some r) :
  Ret Tryz.prog 66 [.pointer (some ⟨d, 0, none⟩)] w0 (fun (r : Bool) (_u : Unit) => .bool r) (fun (_r : Bool) (_u : Unit) => []) r := by
 refine calls_v (n := 36) r hr Tryz.func66 ?_
 unfold m_audit_invoice_balanced
 refine sr <| la 1 ((2, .bool false) :: _) rfl <| nn <| sr <| la 1 ((3, .int .i64 _) :: _) rfl <| nn <| cm_join (σ := Int) (ξ := Unit) (fun a0 a2 => [(0, .pointer (some ⟨d, 0, none⟩)), (3, .int .i64 a0)]) (fun a0 a2 => []) ?_ ?_
 ·refine sr <| la 1 ((6, .pointer (some ⟨_, _, _⟩)) :: _) rfl <| v_ 7 (fun _ _ => op_nilCheck rfl) <| v_ 8 (fun _ _ => oF 0 0 rfl) <| v_ 9 (fun _ _ => oF 4 4 rfl) <| v_ 10 (fun _ c1 => oL (c1.ocell (Z.at_ 4 (u := .slice _ _ _) rfl))) <| v_ 11 (fun _ _ => op_lenN rfl (by kernel_rfl) x.2.2) <| la 1 ((12, .int .i64 _) :: _) rfl <| nn <| cm_block <| cm_loop (σ := Int × Int) (ξ := Unit) (fun a a3 => [(0, .pointer (some ⟨d, 0, none⟩)), (3, .int .i64 a.1), (10, .slice b e f), (11, .int .i64 (List.length p0.Bill.Items : Int)), (12, .int .i64 a.2)]) (fun a a3 => []) () ?_ ?_ ?_
  ·exact sq
  ·exact sh []
  intro a a3
  refine sr <| la 1 ((13, .bool _) :: _) rfl <| nn <| cm_seq <| cm_cond (by kernel_rfl) rfl (fun a4 => ?_) (fun a4 => ?_)
  ·refine sk <| cm_seq <| cm_block <| sr <| lm_ck (fun y => ?_)
   refine v_ 14 (fun _ c1 => oI 5 rfl rfl ((t.old c1).addr y.1 y.2) x.2.2 y) <| v_ 15 (fun _ c1 => oR [.int .i64 ((ix p0.Bill.Items a.2).Kind), .int .i64 ((ix p0.Bill.Items a.2).Ref), .int .i64 ((ix p0.Bill.Items a.2).Count), .int .i64 ((ix p0.Bill.Items a.2).Price), .int .i64 ((ix p0.Bill.Items a.2).Amount)] ((t.old c1).row y.1 y.2)) <| lm_alloc 5 [.int .i64 0, .int .i64 0, .int .i64 0, .int .i64 0, .int .i64 0] (v := .agg #[.int .i64 0, .int .i64 0, .int .i64 0, .int .i64 0, .int .i64 0]) (by kernel_rfl) (by kernel_rfl) rfl ?_
   intro a8
   refine lm_storeA 0 [.int .i64 _, .int .i64 _, .int .i64 _, .int .i64 _, .int .i64 _] [_, _, _, _, _] (H' := [blkE _ _ [_, _, _, _, _]]) (by kernel_rfl) rfl rfl (by kernel_rfl) rfl rfl (by kernel_rfl) rfl rfl <| nn <| cm_seq <| cm_seq <| cm_cutE [(23, .bool ((decide ((ix p0.Bill.Items a.2).Amount < -1000000000000)) || (decide (1000000000000 < (ix p0.Bill.Items a.2).Amount))))] ?_ ?_
   ·refine q_ 16 (fun _ _ => oF 4 4 rfl) <| q_ 17 (fun _ c1 => oL (c1.cell 0 (u := .int .i64 _) rfl rfl)) <| qd 18 (fun _ _ => op_lss rfl rfl) (fun a1 => ?_) (fun a1 => ?_)
    ·refine qa 5 ((23, .bool true) :: (22, undef) :: (21, undef) :: (20, undef) :: (19, .bool true) :: _) rfl ?_
     exact leaf_q (sub_out 8 _ rfl (by kernel_rfl) ⟨(congrArg Value.bool (by rw [decide_eq_true a1] <;> rfl)), trivial⟩)
    ·refine qa 1 ((19, .bool false) :: _) rfl <| q_ 20 (fun _ _ => oF 4 4 rfl) <| q_ 21 (fun _ c1 => oL (c1.cell 0 (u := .int .i64 _) rfl rfl)) <| qa 2 ((23, .bool _) :: (22, .bool _) :: _) rfl ?_
     exact leaf_q (sub_out 8 _ rfl (by kernel_rfl) ⟨(congrArg Value.bool (by rw [decide_eq_false a1] <;> rfl)), trivial⟩)
   refine xm_next <| cm_condB (by kernel_rfl) rfl (fun a5 => ?_) (fun a5 => ?_)
   ·refine sr <| la 1 ((2, .bool false) :: _) rfl <| nn <| cm_ret <| xm_thenR <| xm_inR <| xm_thenR <| xm_lret <| xm_inR <| xm_lret ?_
    exact xm_retT rfl (by kernel_rfl) (show _ = Value.bool false from rfl) fun w1 c1 => ⟨(), rfl, hsub [] (by kernel_rfl) rfl w1 c1⟩
   ·refine sk <| cm_region <| la 1 ((24, .int .i64 _) :: _) rfl <| v_ 25 (fun _ _ => oF 4 4 rfl) <| v_ 26 (fun _ c1 => oL (c1.cell 0 (u := .int .i64 _) rfl rfl)) <| lm_ck (fun a6 => ?_)
    refine v_ 27 (fun _ _ => op_add rfl rfl a6) <| la 1 ((3, .int .i64 _) :: _) rfl <| lm_nil <| xm_inN <| xm_next <| cm_region <| lm_ck (fun a7 => ?_)
    refine v_ 28 (fun _ _ => op_add rfl rfl a7) <| la 1 ((12, .int .i64 _) :: _) rfl <| lm_nil ?_
    exact xm_lnext () sq (sh [])
  ·refine cm_exit <| xm_thenE <| xm_lexit <| xm_here ?_
   exact xm_lnext () sq (sh [])
 intro a0 a2
 refine sr <| la 2 ((30, .pointer (some ⟨_, _, _⟩)) :: (29, .int .i64 _) :: _) rfl <| v_ 31 (fun _ _ => op_nilCheck rfl) <| v_ 32 (fun _ _ => oF 0 0 rfl) <| v_ 33 (fun _ _ => oF 5 5 rfl) <| v_ 34 (fun _ c1 => oL (c1.ocell (Z.at_ 5 (u := .int .i64 _) rfl))) <| la 2 ((2, .bool _) :: (35, .bool _) :: _) rfl <| nn <| cm_ret ?_
 exact xm_retT rfl (by kernel_rfl) (show _ = Value.bool _ from rfl) fun w1 c1 => ⟨(), rfl, hsub [] (by kernel_rfl) rfl w1 c1⟩
/-- (*audit.invoice).charges$1 -/
def m_audit_invoice_charges_1 (_N : Nat) (p0 : ApiItem) (q0 : Int) : Option (Bool) :=
 some (((decide (p0.Kind = 2)) && (decide (p0.Ref = q0))))
set_option maxRecDepth 20000 in
theorem m_audit_invoice_charges_1_ok (N : Nat) (w0 : World) (p0 : ApiItem) (q0 : Int) (a : Nat) (b : Blk w0 a 3 [.int .i64 q0]) (r : Bool) (hr : m_audit_invoice_charges_1 N p0 q0 = some r) :
  Ret Tryz.prog 123 [.agg #[.int .i64 p0.Kind, .int .i64 p0.Ref, .int .i64 p0.Count, .int .i64 p0.Price, .int .i64 p0.Amount], .pointer (some ⟨a, 0, none⟩)] w0 (fun (r : Bool) (_u : Unit) => .bool r) (fun (_r : Bool) (_u : Unit) => []) r := by
 refine calls_v (n := 13) r hr Tryz.func123 ?_
 unfold m_audit_invoice_charges_1
 refine sr <| lm_box 2 [.int .i64 _, .int .i64 _, .int .i64 _, .int .i64 _, .int .i64 _] (by kernel_rfl) rfl ?_
 intro b5
 refine la 1 ((3, .bool false) :: _) rfl <| nn <| cm_seq <| cm_cutE [(3, .bool ((decide (p0.Kind = 2)) && (decide (p0.Ref = q0))))] ?_ ?_
 ·refine q_ 4 (fun _ _ => oF 0 0 rfl) <| q_ 5 (fun _ c1 => oL (c1.cell 0 (u := .int .i64 _) rfl rfl)) <| qd 6 (fun _ _ => op_eql rfl rfl) (fun h6 => ?_) (fun h6 => ?_)
  ·refine qa 1 ((7, .bool true) :: _) rfl <| q_ 8 (fun _ _ => oF 1 1 rfl) <| q_ 9 (fun _ c1 => oL (c1.cell 0 (u := .int .i64 _) rfl rfl)) <| q_ 10 (fun _ c1 => oL (c1.ocell (b.at_ 0 (u := .int .i64 _) rfl))) <| qa 3 ((3, .bool _) :: (12, .bool _) :: (11, .bool _) :: _) rfl ?_
   exact leaf_q (sub_out 10 _ rfl (by kernel_rfl) ⟨(congrArg Value.bool (by rw [decide_eq_true h6] <;> rfl)), trivial⟩)
  ·refine qa 7 ((3, .bool false) :: (12, .bool false) :: (11, undef) :: (10, undef) :: (9, undef) :: (8, undef) :: (7, .bool false) :: _) rfl ?_
   exact leaf_q (sub_out 10 _ rfl (by kernel_rfl) ⟨(congrArg Value.bool (by rw [decide_eq_false h6] <;> rfl)), trivial⟩)
 refine xm_next <| cm_ret ?_
 exact xm_retT rfl (by kernel_rfl) (show _ = Value.bool _ from rfl) fun w1 c1 => ⟨(), rfl, hsub [] (by kernel_rfl) rfl w1 c1⟩
/-- slices.IndexFunc -/
def m_slices_IndexFunc_audit_invoice_charges_1 (N : Nat) (p0 : (List ApiItem)) (p1c0 : Int) : Option (Int) :=
 (andThen
  (loopM (fun (a : Int) =>
   (if a < (List.length p0 : Int) then
    ck ((0 : Int) ≤ a ∧ a < (List.length p0 : Int)) (
     Option.bind (m_audit_invoice_charges_1 N (ix p0 a) p1c0) fun b => (if b = true then
      some (.done (.done (a)))
     else
      ck (I64 (a + (1 : Int))) (
       some (.next (a + (1 : Int))))))
   else
    some (.done (.next ())))) N (0 : Int))
 fun (_s29 : Unit) =>
  some ((-1 : Int)))
set_option maxRecDepth 20000 in
theorem m_slices_IndexFunc_audit_invoice_charges_1_ok (N : Nat) (w0 : World) (p0 : (List ApiItem)) (p1c0 : Int) (d : Option Addr) (f : Nat) (g : Nat) (a : Nat) (i : RdE w0 5 encApiItem d p0) (j : SW d f g (List.length p0)) (l : Blk w0 a 3 [.int .i64 p1c0]) (r : Int) (hr : m_slices_IndexFunc_audit_invoice_charges_1 N p0 p1c0 = some r) :
  Ret Tryz.prog 121 [.slice d f g, .func (.func 123) #[] #[.pointer (some ⟨a, 0, none⟩)]] w0 (fun (r : Int) (_u : Unit) => .int .i64 r) (fun (_r : Int) (_u : Unit) => []) r := by
 refine calls_v (n := 19) r hr Tryz.func121 ?_
 unfold m_slices_IndexFunc_audit_invoice_charges_1
 refine sr <| la 1 ((4, .int .i64 _) :: _) rfl <| nn <| cm_join (σ := Unit) (ξ := Unit) (fun m o => []) (fun m o => []) ?_ ?_
 ·refine sr <| la 1 ((6, .slice _ _ _) :: _) rfl <| v_ 7 (fun _ _ => op_lenN rfl (by kernel_rfl) j.2.2) <| la 1 ((8, .int .i64 _) :: _) rfl <| nn <| cm_block <| cm_loop (σ := Int) (ξ := Unit) (fun b q => [(0, .slice d f g), (1, .func (.func 123) #[] #[.pointer (some ⟨a, 0, none⟩)]), (7, .int .i64 (List.length p0 : Int)), (8, .int .i64 b)]) (fun b q => []) () ?_ ?_ ?_
  ·exact sq
  ·exact sh []
  intro b q
  refine sr <| la 1 ((9, .bool _) :: _) rfl <| nn <| cm_seq <| cm_cond (by kernel_rfl) rfl (fun t => ?_) (fun t => ?_)
  ·refine sk <| cm_seq <| cm_block <| sr <| la 2 ((5, .int .i64 _) :: (10, .int .i64 _) :: _) rfl <| nn <| sr <| la 3 ((13, .int .i64 _) :: (12, .slice _ _ _) :: (11, .func _ _ _) :: _) rfl <| lm_ck (fun e => ?_)
   refine v_ 14 (fun _ c1 => oI 5 rfl rfl ((i.old c1).addr e.1 e.2) j.2.2 e) <| v_ 15 (fun _ c1 => oR [.int .i64 ((ix p0 b).Kind), .int .i64 ((ix p0 b).Ref), .int .i64 ((ix p0 b).Count), .int .i64 ((ix p0 b).Price), .int .i64 ((ix p0 b).Amount)] ((i.old c1).row e.1 e.2)) <| lm_call 16 (V := (fun (r : Bool) (_u : Unit) => .bool r)) (HR := (fun (_r : Bool) (_u : Unit) => [])) (by kernel_rfl) (fun w1 => op_callv rfl (by kernel_rfl)) (fun r1 hr1 w1 c1 => m_audit_invoice_charges_1_ok N w1 (ix p0 b) p1c0 a (c1.oblk l) r1 hr1) ?_
   intro y z
   refine nn <| cm_condB (by kernel_rfl) rfl (fun v => ?_) (fun v => ?_)
   ·refine sr <| la 2 ((4, .int .i64 _) :: (17, .int .i64 _) :: _) rfl <| nn <| cm_ret <| xm_inR <| xm_thenR <| xm_lret <| xm_inR <| xm_lret ?_
    exact xm_retT rfl (by kernel_rfl) (show _ = Value.int .i64 _ from rfl) fun w1 c1 => ⟨(), rfl, hsub [] (by kernel_rfl) rfl w1 c1⟩
   ·refine cm_skip <| xm_inN <| xm_next <| cm_region <| lm_ck (fun x => ?_)
    refine v_ 18 (fun _ _ => op_add rfl rfl x) <| la 1 ((8, .int .i64 _) :: _) rfl <| lm_nil ?_
    exact xm_lnext () sq (sh [])
  ·refine cm_exit <| xm_thenE <| xm_lexit <| xm_here ?_
   exact xm_lnext () sub_nil (sh [])
 intro m o
 refine sr <| la 1 ((4, .int .i64 _) :: _) rfl <| nn <| cm_ret ?_
 exact xm_retT rfl (by kernel_rfl) (show _ = Value.int .i64 _ from rfl) fun w1 c1 => ⟨(), rfl, hsub [] (by kernel_rfl) rfl w1 c1⟩
/-- (*audit.invoice).charges -/
def m_audit_invoice_charges (N : Nat) (p0 : AuditInvoice) (p1 : Int) : Option (Int) :=
 Option.bind (m_slices_IndexFunc_audit_invoice_charges_1 N p0.Bill.Items p1) fun r6 => some (r6)
set_option maxRecDepth 20000 in
theorem m_audit_invoice_charges_ok (N : Nat) (w0 : World) (p0 : AuditInvoice) (p1 : Int) (O : Nat) (a : Option Addr) (b : Nat) (d : Nat) (e : Option Addr) (o : Nat) (q : Nat) (f : Option Addr) (t : Nat) (v : Nat) (g : Option Addr) (x : Nat) (y : Nat) (i : Option Addr) (z : Nat) (B : Nat) (j : Option Addr) (C : Nat) (G : Nat) (l : Option Addr) (J : Nat) (K : Nat) (m : Option Addr) (L : Nat) (M : Nat) (f_p09 : Value) (X : Blk w0 O 74 [.int .i64 p0.Bill.ID, .int .i64 p0.Bill.Household, .int .i64 p0.Bill.When.From, .int .i64 p0.Bill.When.To, .slice a b d, .int .i64 p0.Bill.Total, .slice e o q, .slice f t v, .slice g x y, .slice i z B, .slice j C G, .int .i64 p0.account_.Gap, .slice l J K, .slice m L M, f_p09]) (Q : RdE w0 5 encApiItem a p0.Bill.Items) (U : SW a b d (List.length p0.Bill.Items)) (_hr_p02 : RdE w0 2 encApiHousehold e p0.account_.Households) (_hz_p02 : SW e o q (List.length p0.account_.Households)) (_hr_p03 : RdE w0 5 encApiContainer f p0.account_.Containers) (_hz_p03 : SW f t v (List.length p0.account_.Containers)) (_hr_p04 : RdE w0 4 encApiAssign g p0.account_.Assigns) (_hz_p04 : SW g x y (List.length p0.account_.Assigns)) (_hr_p05 : RdE w0 7 encApiEmptying i p0.account_.Emptyings) (_hz_p05 : SW i z B (List.length p0.account_.Emptyings)) (_hr_p06 : RdE w0 5 encApiTariff j p0.account_.Tariffs) (_hz_p06 : SW j C G (List.length p0.account_.Tariffs)) (_hr_p07 : RdE w0 5 encApiItem l p0.base_) (_hz_p07 : SW l J K (List.length p0.base_)) (_hr_p08 : RdE w0 1 encI m p0.counted_) (_hz_p08 : SW m L M (List.length p0.counted_)) (r : Int) (hr : m_audit_invoice_charges N p0 p1 = some r) :
  Ret Tryz.prog 71 [.pointer (some ⟨O, 0, none⟩), .int .i64 p1] w0 (fun (r : Int) (_u : Unit) => .int .i64 r) (fun (_r : Int) (_u : Unit) => []) r := by
 refine calls_v (n := 12) r hr Tryz.func71 ?_
 unfold m_audit_invoice_charges
 refine sr <| lm_box 3 [.int .i64 _] (by kernel_rfl) rfl ?_
 intro b5
 refine la 1 ((4, .int .i64 _) :: _) rfl <| nn <| sr <| la 1 ((5, .pointer (some ⟨_, _, _⟩)) :: _) rfl <| v_ 6 (fun _ _ => op_nilCheck rfl) <| v_ 7 (fun _ _ => oF 0 0 rfl) <| v_ 8 (fun _ _ => oF 4 4 rfl) <| v_ 9 (fun _ c1 => oL (c1.ocell (X.at_ 4 (u := .slice _ _ _) rfl))) <| v_ 10 (fun _ _ => op_makeFuncC [.pointer (some ⟨_, _, _⟩)] rfl) <| lm_call 11 (V := (fun (r : Int) (_u : Unit) => .int .i64 r)) (HR := (fun (_r : Int) (_u : Unit) => [])) (by kernel_rfl) (fun w1 => op_call (by kernel_rfl)) (fun r1 hr1 w1 c1 => m_slices_IndexFunc_audit_invoice_charges_1_ok N w1 p0.Bill.Items p1 a b d b5 (Q.old c1) U (c1.blk 0 rfl) r1 hr1) ?_
 intro r6 u7
 refine la 1 ((4, .int .i64 _) :: _) rfl <| nn <| cm_ret ?_
 exact xm_retT rfl (by kernel_rfl) (show _ = Value.int .i64 _ from rfl) fun w1 c1 => ⟨(), rfl, hsub [] (by kernel_rfl) rfl w1 c1⟩
/-- (*audit.invoice).credited -/
def m_audit_invoice_credited (N : Nat) (p0 : AuditInvoice) (p1 : Int) : Option (Bool) :=
 (andThen
  (loopM (fun (a : Int × Int) =>
   (if a.2 < (List.length p0.Bill.Items : Int) then
    (andThen
     (ck ((0 : Int) ≤ a.2 ∧ a.2 < (List.length p0.Bill.Items : Int)) (
      (if ((decide ((ix p0.Bill.Items a.2).Ref = p1)) && (decide ((ix p0.Bill.Items a.2).Kind ≠ 1))) = true then
       ck (I64 (a.1 + (min (max ((ix p0.Bill.Items a.2).Amount) (-1000000000001 : Int)) (1000000000001 : Int)))) (
        some (.next (a.1 + (min (max ((ix p0.Bill.Items a.2).Amount) (-1000000000001 : Int)) (1000000000001 : Int)))))
      else
       some (.next a.1))))
    fun (b : Int) =>
     ck (I64 (a.2 + (1 : Int))) (
      some (.next (b, (a.2 + (1 : Int))))))
   else
    some (.done (.next a.1)))) N ((0 : Int), (0 : Int)))
 fun (d : Int) =>
  some ((decide (d = 0))))
set_option maxRecDepth 20000 in
theorem m_audit_invoice_credited_ok (N : Nat) (w0 : World) (p0 : AuditInvoice) (p1 : Int) (Y : Nat) (b : Option Addr) (d : Nat) (e : Nat) (f : Option Addr) (y : Nat) (z : Nat) (g : Option Addr) (B : Nat) (C : Nat) (i : Option Addr) (G : Nat) (J : Nat) (j : Option Addr) (K : Nat) (L : Nat) (l : Option Addr) (M : Nat) (O : Nat) (m : Option Addr) (Q : Nat) (U : Nat) (o : Option Addr) (V : Nat) (X : Nat) (f_p09 : Value) (a2 : Blk w0 Y 74 [.int .i64 p0.Bill.ID, .int .i64 p0.Bill.Household, .int .i64 p0.Bill.When.From, .int .i64 p0.Bill.When.To, .slice b d e, .int .i64 p0.Bill.Total, .slice f y z, .slice g B C, .slice i G J, .slice j K L, .slice l M O, .int .i64 p0.account_.Gap, .slice m Q U, .slice o V X, f_p09]) (q : RdE w0 5 encApiItem b p0.Bill.Items) (t : SW b d e (List.length p0.Bill.Items)) (_hr_p02 : RdE w0 2 encApiHousehold f p0.account_.Households) (_hz_p02 : SW f y z (List.length p0.account_.Households)) (_hr_p03 : RdE w0 5 encApiContainer g p0.account_.Containers) (_hz_p03 : SW g B C (List.length p0.account_.Containers)) (_hr_p04 : RdE w0 4 encApiAssign i p0.account_.Assigns) (_hz_p04 : SW i G J (List.length p0.account_.Assigns)) (_hr_p05 : RdE w0 7 encApiEmptying j p0.account_.Emptyings) (_hz_p05 : SW j K L (List.length p0.account_.Emptyings)) (_hr_p06 : RdE w0 5 encApiTariff l p0.account_.Tariffs) (_hz_p06 : SW l M O (List.length p0.account_.Tariffs)) (_hr_p07 : RdE w0 5 encApiItem m p0.base_) (_hz_p07 : SW m Q U (List.length p0.base_)) (_hr_p08 : RdE w0 1 encI o p0.counted_) (_hz_p08 : SW o V X (List.length p0.counted_)) (r : Bool) (hr : m_audit_invoice_credited N p0 p1 = some r) :
  Ret Tryz.prog 74 [.pointer (some ⟨Y, 0, none⟩), .int .i64 p1] w0 (fun (r : Bool) (_u : Unit) => .bool r) (fun (_r : Bool) (_u : Unit) => []) r := by
 refine calls_v (n := 36) r hr Tryz.func74 ?_
 unfold m_audit_invoice_credited
 refine sr <| la 1 ((4, .bool false) :: _) rfl <| nn <| sr <| la 1 ((5, .int .i64 _) :: _) rfl <| nn <| cm_join (σ := Int) (ξ := Unit) (fun Z a3 => [(5, .int .i64 Z)]) (fun Z a3 => []) ?_ ?_
 ·refine sr <| la 1 ((8, .pointer (some ⟨_, _, _⟩)) :: _) rfl <| v_ 9 (fun _ _ => op_nilCheck rfl) <| v_ 10 (fun _ _ => oF 0 0 rfl) <| v_ 11 (fun _ _ => oF 4 4 rfl) <| v_ 12 (fun _ c1 => oL (c1.ocell (a2.at_ 4 (u := .slice _ _ _) rfl))) <| v_ 13 (fun _ _ => op_lenN rfl (by kernel_rfl) t.2.2) <| la 1 ((14, .int .i64 _) :: _) rfl <| nn <| cm_block <| cm_loop (σ := Int × Int) (ξ := Unit) (fun a a4 => [(1, .int .i64 p1), (5, .int .i64 a.1), (12, .slice b d e), (13, .int .i64 (List.length p0.Bill.Items : Int)), (14, .int .i64 a.2)]) (fun a a4 => []) () ?_ ?_ ?_
  ·exact sq
  ·exact sh []
  intro a a4
  refine sr <| la 1 ((15, .bool _) :: _) rfl <| nn <| cm_seq <| cm_cond (by kernel_rfl) rfl (fun a9 => ?_) (fun a9 => ?_)
  ·refine sk <| cm_join (σ := Int) (ξ := Unit) (fun a0 a5 => [(1, .int .i64 p1), (5, .int .i64 a0), (12, .slice b d e), (13, .int .i64 (List.length p0.Bill.Items : Int)), (14, .int .i64 a.2)]) (fun a0 a5 => []) ?_ ?_
   ·refine cm_block <| sr <| lm_ck (fun x => ?_)
    refine v_ 16 (fun _ c1 => oI 5 rfl rfl ((q.old c1).addr x.1 x.2) t.2.2 x) <| v_ 17 (fun _ c1 => oR [.int .i64 ((ix p0.Bill.Items a.2).Kind), .int .i64 ((ix p0.Bill.Items a.2).Ref), .int .i64 ((ix p0.Bill.Items a.2).Count), .int .i64 ((ix p0.Bill.Items a.2).Price), .int .i64 ((ix p0.Bill.Items a.2).Amount)] ((q.old c1).row x.1 x.2)) <| lm_alloc 7 [.int .i64 0, .int .i64 0, .int .i64 0, .int .i64 0, .int .i64 0] (v := .agg #[.int .i64 0, .int .i64 0, .int .i64 0, .int .i64 0, .int .i64 0]) (by kernel_rfl) (by kernel_rfl) rfl ?_
    intro aa
    refine lm_storeA 0 [.int .i64 _, .int .i64 _, .int .i64 _, .int .i64 _, .int .i64 _] [_, _, _, _, _] (H' := [blkE _ _ [_, _, _, _, _]]) (by kernel_rfl) rfl rfl (by kernel_rfl) rfl rfl (by kernel_rfl) rfl rfl <| nn <| cm_seq <| cm_cutE [(26, .bool ((decide ((ix p0.Bill.Items a.2).Ref = p1)) && (decide ((ix p0.Bill.Items a.2).Kind ≠ 1))))] ?_ ?_
    ·refine q_ 18 (fun _ _ => oF 1 1 rfl) <| q_ 19 (fun _ c1 => oL (c1.cell 0 (u := .int .i64 _) rfl rfl)) <| qa 1 ((20, .int .i64 _) :: _) rfl <| qd 21 (fun _ _ => op_eql rfl rfl) (fun a1 => ?_) (fun a1 => ?_)
     ·refine qa 1 ((22, .bool true) :: _) rfl <| q_ 23 (fun _ _ => oF 0 0 rfl) <| q_ 24 (fun _ c1 => oL (c1.cell 0 (u := .int .i64 _) rfl rfl)) <| qa 2 ((26, .bool _) :: (25, .bool _) :: _) rfl ?_
      exact leaf_q (sub_out 9 _ rfl (by kernel_rfl) ⟨(congrArg Value.bool (by rw [decide_eq_true a1] <;> rfl)), trivial⟩)
     ·refine qa 5 ((26, .bool false) :: (25, undef) :: (24, undef) :: (23, undef) :: (22, .bool false) :: _) rfl ?_
      exact leaf_q (sub_out 9 _ rfl (by kernel_rfl) ⟨(congrArg Value.bool (by rw [decide_eq_false a1] <;> rfl)), trivial⟩)
    refine xm_next <| cm_condB (by kernel_rfl) rfl (fun a6 => ?_) (fun a6 => ?_)
    ·refine cm_region <| la 1 ((27, .int .i64 _) :: _) rfl <| v_ 28 (fun _ _ => oF 4 4 rfl) <| v_ 29 (fun _ c1 => oL (c1.cell 0 (u := .int .i64 _) rfl rfl)) <| v_ 30 (fun _ _ => op_max rfl rfl) <| v_ 31 (fun _ _ => op_min rfl rfl) <| lm_ck (fun a7 => ?_)
     refine v_ 32 (fun _ _ => op_add rfl rfl a7) <| la 1 ((5, .int .i64 _) :: _) rfl <| lm_nil <| xm_inN ?_
     exact xm_lnext () sq (sh [])
    ·refine cm_skip <| xm_inN ?_
     exact xm_lnext () sq (sh [])
   intro a0 a5
   refine cm_region <| lm_ck (fun a8 => ?_)
   refine v_ 33 (fun _ _ => op_add rfl rfl a8) <| la 1 ((14, .int .i64 _) :: _) rfl <| lm_nil ?_
   exact xm_lnext () sq (sh [])
  ·refine cm_exit <| xm_thenE <| xm_lexit <| xm_here ?_
   exact xm_lnext () sq (sh [])
 intro Z a3
 refine sr <| la 3 ((4, .bool _) :: (35, .bool _) :: (34, .int .i64 _) :: _) rfl <| nn <| cm_ret ?_
 exact xm_retT rfl (by kernel_rfl) (show _ = Value.bool _ from rfl) fun w1 c1 => ⟨(), rfl, hsub [] (by kernel_rfl) rfl w1 c1⟩
end Go.Proofs.YtbnimhmoffchdaaGreatDoor
