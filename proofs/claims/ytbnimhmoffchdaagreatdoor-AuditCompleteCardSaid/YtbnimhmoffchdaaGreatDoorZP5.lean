/- Models of functions, and that the code follows them. Written by deco.py. -/
import Derived.Test.YtbnimhmoffchdaaGreatDoorZP4
namespace Go.Proofs.YtbnimhmoffchdaaGreatDoor
open Go.RowKit
set_option linter.unusedSectionVars false
variable [JF]

structure AuditInvoice where
 Bill : ApiBill
 account_ : ApiAccount
 base_ : (List ApiItem)
 counted_ : (List Int)
 found_ : Unit
deriving Inhabited
theorem op_eqApiItem {e : Env} {w : World} {d : Option Tmp} {ty : TypeId} {ps : String} {af : Array Edge} {g : Option (Nat × Bool)} {x y : Operand} (a b : ApiItem) (hx : eev e x = .agg (encApiItem a).toArray) (hy : eev e y = .agg (encApiItem b).toArray) : OpV Tryz.prog e w ⟨d, .binOp .eql 100 x y 100, ty, ps, af, g⟩ (.bool (decide (a = b))) :=
 op_eqFlat (cs := encApiItem a) (ds := encApiItem b) hx hy Tryz.underlying100 (by kernel_rfl) (by kernel_rfl) (by kernel_rfl) (by cases a; cases b; simp [celsEq, celEq, encApiItem])
/-- (*audit.invoice).moments -/
def m_audit_invoice_moments (_N : Nat) (p0 : AuditInvoice) : Option (ApiWindow) :=
 ck (I64 (p0.Bill.When.From * (86400 : Int))) (
  ck (I64 (p0.Bill.When.To * (86400 : Int))) (
   some ((ApiWindow.mk (p0.Bill.When.From * (86400 : Int)) (p0.Bill.When.To * (86400 : Int))))))
set_option maxRecDepth 20000 in
theorem m_audit_invoice_moments_ok (N : Nat) (w0 : World) (p0 : AuditInvoice) (d : Nat) (e : Ad) (f g : Nat) (i : Ad) (j l : Nat) (m : Ad) (o q : Nat) (t : Ad) (x y : Nat) (C : Ad) (G J : Nat) (K : Ad) (L M : Nat) (O : Ad) (Q U : Nat) (V : Ad) (X Y : Nat) (f_p09 : Value) (b : Blk w0 d 74 [I p0.Bill.ID, I p0.Bill.Household, I p0.Bill.When.From, I p0.Bill.When.To, S e f g, I p0.Bill.Total, S i j l, S m o q, S t x y, S C G J, S K L M, I p0.account_.Gap, S O Q U, S V X Y, f_p09]) (r : ApiWindow) (hr : m_audit_invoice_moments N p0 = some r) :
  Ret Tryz.prog 25 [.pointer (some ⟨d, 0, none⟩)] w0 (fun (r : ApiWindow) (_u : Unit) => .agg #[I r.From, I r.To]) H0 r := by
 refine calls_v (n := 18) r hr Tryz.func25 ?_
 unfold m_audit_invoice_moments
 refine sr <| al 2 [I 0, I 0] (v := .agg #[I 0, I 0]) rfl fun b5 => nn <| cm_seq <| cm_ck (fun h6 => ?_)
 refine cm_ck (fun h7 => ?_)
 refine cm_held (ξ := Unit) (fun Z => [(2, .pointer (some ⟨b5, 0, none⟩))]) (fun Z => [blkE b5 49 [I (p0.Bill.When.From * (86400 : Int)), I (p0.Bill.When.To * (86400 : Int))]]) [] 16 (by kernel_rfl) (by rfl) (hsub [] (by kernel_rfl) (by rfl)) ?_ ?_
 ·intro a1 a
  refine wt 0 3 rfl (fun w2 c2 => (op_move (v := .pointer (some ⟨_, _, _⟩)) rfl)) (hs [] a) <| wt 1 4 rfl (fun w2 c2 => (op_nilCheck rfl)) (hs [] a) <| wt 2 5 rfl (fun _ _ => oF 0 0 rfl) (hs [] a) <| wt 3 6 rfl (fun _ _ => oF 2 2 rfl) (hs [] a) <| wt 4 7 rfl (fun _ _ => oF 0 2 rfl) (hs [] a) <| wt 5 8 rfl (fun w2 c2 => (op_load rfl (by kernel_rfl) (c2.ocell (b.at_ 2 (u := I _) rfl)))) (hs [] a) <| wt 6 9 rfl (fun w2 c2 => (op_mul rfl rfl h6)) (hs [] a) <| wt 7 10 rfl (fun w2 c2 => (op_move (v := .pointer (some ⟨_, _, _⟩)) rfl)) (hs [] a) <| wt 8 11 rfl (fun w2 c2 => (op_nilCheck rfl)) (hs [] a) <| wt 9 12 rfl (fun _ _ => oF 0 0 rfl) (hs [] a) <| wt 10 13 rfl (fun _ _ => oF 2 2 rfl) (hs [] a) <| wt 11 14 rfl (fun _ _ => oF 1 3 rfl) (hs [] a) <| wt 12 15 rfl (fun w2 c2 => (op_load rfl (by kernel_rfl) (c2.ocell (b.at_ 3 (u := I _) rfl)))) (hs [] a) <| wt 13 16 rfl (fun w2 c2 => (op_mul rfl rfl h7)) (hs [] a) <| wt 14 17 rfl (fun w2 c2 => (op_build (z := [I 0, I 0]) (tab := [(0, 1), (1, 1)]) (cs := [I _, I _]) [(0, [I _]), (1, [I _])] (by kernel_rfl) (by kernel_rfl) (fillOk_cons rfl rfl rfl (fillOk_cons rfl rfl rfl fillOk_nil)) rfl)) (hs [] a) <| wh_ready [15] (by kernel_rfl) rfl ⟨?_, trivial⟩
  refine ws_storeA 0 [I _, I _] [_, _] rfl (by kernel_rfl) rfl rfl (by kernel_rfl) rfl rfl (by kernel_rfl) rfl (H' := [blkE _ _ [_, _]]) rfl a fun a2 a0 => ⟨(hs [] a0), ?_⟩
  exact wh_done () (by kernel_rfl) sq (hs [0] a0)
 intro Z
 exact xm_next <| cm_ret <| xm_retC rfl (by kernel_rfl) (show _ = Value.pointer (some ⟨_, 0, none⟩) from rfl) (by kernel_rfl) (fun w1 c1 => c1.cells 0 (ds := [I _, I _]) rfl rfl) fun w1 c1 => ⟨(), rfl, hs [] c1⟩
/-- audit.valid -/
def m_audit_valid (_N : Nat) (p0 : ApiAccount) (p1 : ApiBill) : Option (Bool) :=
 some ((((((decide (0 ≤ p1.Household)) && (decide (p1.Household < (List.length p0.Households : Int)))) && (decide (0 ≤ p1.When.From))) && (decide (p1.When.From ≤ p1.When.To))) && (decide (p1.When.To ≤ 36525))))
set_option maxHeartbeats 2000000 in
set_option maxRecDepth 20000 in
theorem m_audit_valid_ok (N : Nat) (w0 : World) (p0 : ApiAccount) (p1 : ApiBill) (a : Ad) (b d : Nat) (g : Ad) (i j : Nat) (l : Ad) (m o : Nat) (q : Ad) (t v : Nat) (x : Ad) (y z : Nat) (C : Ad) (G J : Nat) (e : SW a b d (List.length p0.Households)) (r : Bool) (hr : m_audit_valid N p0 p1 = some r) :
  Ret Tryz.prog 22 [.agg #[S a b d, S g i j, S l m o, S q t v, S x y z, I p0.Gap], .agg #[I p1.ID, I p1.Household, I p1.When.From, I p1.When.To, S C G J, I p1.Total]] w0 VB H0 r := by
 refine calls_v (n := 37) r hr Tryz.func22 ?_
 unfold m_audit_valid
 refine sr <| bx 2 [S _ _ _, S _ _ _, S _ _ _, S _ _ _, S _ _ _, I _] rfl fun b5 => bx 3 [I _, I _, I _, I _, S _ _ _, I _] rfl fun b6 => la 1 ((4, B false) :: _) rfl <| nn <| cm_seq <| cm_cutE [(4, B (((((decide (0 ≤ p1.Household)) && (decide (p1.Household < (List.length p0.Households : Int)))) && (decide (0 ≤ p1.When.From))) && (decide (p1.When.From ≤ p1.When.To))) && (decide (p1.When.To ≤ 36525))))] ?_ ?_
 ·refine qf 5 1 1 rfl <| qc 6 0 rfl rfl rfl <| qd 7 (fun _ _ => op_geq rfl rfl) (fun h7 => ?_) (fun h7 => ?_)
  ·refine qa 1 ((8, B true) :: _) rfl <| qf 9 1 1 rfl <| qc 10 0 rfl rfl rfl <| qf 11 0 0 rfl <| qc 12 1 rfl rfl rfl <| qn 13 e rfl <| qd 14 (fun _ _ => op_lss rfl rfl) (fun h8 => ?_) (fun h8 => ?_)
   ·refine qa 2 ((16, B true) :: (15, B true) :: _) rfl <| qf 17 2 2 rfl <| qf 18 0 2 rfl <| qc 19 0 rfl rfl rfl <| qd 20 (fun _ _ => op_geq rfl rfl) (fun h9 => ?_) (fun h9 => ?_)
    ·refine qa 2 ((22, B true) :: (21, B true) :: _) rfl <| qf 23 2 2 rfl <| qf 24 0 2 rfl <| qc 25 0 rfl rfl rfl <| qf 26 2 2 rfl <| qf 27 1 3 rfl <| qc 28 0 rfl rfl rfl <| qd 29 (fun _ _ => op_leq rfl rfl) (fun f => ?_) (fun f => ?_)
     ·exact qa 2 ((31, B true) :: (30, B true) :: _) rfl <| qf 32 2 2 rfl <| qf 33 1 3 rfl <| qc 34 0 rfl rfl rfl <| qa 3 ((4, B _) :: (36, B _) :: (35, B _) :: _) rfl <| lb 33 rfl (by rw [dt h7, dt h8, dt h9, dt f] <;> rfl)
     ·exact qa 8 ((4, B false) :: (36, B false) :: uz 35 4 ((31, B false) :: (30, B false) :: _)) rfl <| lb 33 rfl (by rw [dt h7, dt h8, dt h9, df f] <;> rfl)
    ·exact qa 17 ((4, B false) :: (36, B false) :: uz 35 4 ((31, B false) :: (30, B false) :: uz 29 7 ((22, B false) :: (21, B false) :: _))) rfl <| lb 33 rfl (by rw [dt h7, dt h8, df h9] <;> rfl)
   ·exact qa 23 ((4, B false) :: (36, B false) :: uz 35 4 ((31, B false) :: (30, B false) :: uz 29 7 ((22, B false) :: (21, B false) :: uz 20 4 ((16, B false) :: (15, B false) :: _)))) rfl <| lb 33 rfl (by rw [dt h7, df h8] <;> rfl)
  ·exact qa 30 ((4, B false) :: (36, B false) :: uz 35 4 ((31, B false) :: (30, B false) :: uz 29 7 ((22, B false) :: (21, B false) :: uz 20 4 ((16, B false) :: (15, B false) :: uz 14 6 ((8, B false) :: _))))) rfl <| lb 33 rfl (by rw [df h7] <;> rfl)
 exact xm_next <| cm_ret <| xr [] ()
/-- (*audit.invoice).record$1 -/
def m_audit_invoice_record_1 (_N : Nat) (p0 : ApiEmptying) (q0 : Int) : Option (Bool) :=
 some ((decide (p0.ID = q0)))
set_option maxRecDepth 20000 in
theorem m_audit_invoice_record_1_ok (N : Nat) (w0 : World) (p0 : ApiEmptying) (q0 : Int) (a : Nat) (b : Blk w0 a 3 [I q0]) (r : Bool) (hr : m_audit_invoice_record_1 N p0 q0 = some r) :
  Ret Tryz.prog 125 [.agg #[I p0.ID, I p0.Container, I p0.Vehicle, I p0.At, I p0.Mass.Lo, I p0.Mass.Hi, B p0.Void], .pointer (some ⟨a, 0, none⟩)] w0 VB H0 r := by
 refine calls_v (n := 8) r hr Tryz.func125 ?_
 unfold m_audit_invoice_record_1
 exact sr <| bx 2 [I _, I _, I _, I _, I _, I _, B _] rfl fun b5 => la 1 ((3, B false) :: _) rfl <| nn <| sr <| vf 4 0 0 rfl <| vc 5 0 rfl rfl rfl <| v_ 6 (fun _ c1 => oL (c1.ocell (b.at_ 0 (u := I _) rfl))) <| la 2 ((3, B _) :: (7, B _) :: _) rfl <| nn <| cm_ret <| xr [] ()
/-- slices.IndexFunc -/
def m_slices_IndexFunc_audit_invoice_record_1 (N : Nat) (p0 : (List ApiEmptying)) (p1c0 : Int) : Option (Int) :=
 (andThen
  (loopM (fun (a : Int) =>
   (if a < (List.length p0 : Int) then
    ck (0 ≤ a ∧ a < (List.length p0 : Int)) (
     Option.bind (m_audit_invoice_record_1 N (ix p0 a) p1c0) fun b => (if b = true then
      some (.done (.done (a)))
     else
      ck (I64 (a + 1)) (
       some (.next (a + 1)))))
   else
    some (.done (.next ())))) N 0)
 fun (_s29 : Unit) =>
  some ((-1 : Int)))
set_option maxRecDepth 20000 in
theorem m_slices_IndexFunc_audit_invoice_record_1_ok (N : Nat) (w0 : World) (p0 : (List ApiEmptying)) (p1c0 : Int) (b : Ad) (d e a : Nat) (f : RdE w0 7 encApiEmptying b p0) (g : SW b d e (List.length p0)) (j : Blk w0 a 3 [I p1c0]) (r : Int) (hr : m_slices_IndexFunc_audit_invoice_record_1 N p0 p1c0 = some r) :
  Ret Tryz.prog 124 [S b d e, .func (.func 125) #[] #[.pointer (some ⟨a, 0, none⟩)]] w0 VI H0 r := by
 refine calls_v (n := 19) r hr Tryz.func124 ?_
 unfold m_slices_IndexFunc_audit_invoice_record_1
 refine sr <| la 1 ((4, I _) :: _) rfl <| nn <| cm_join (σ := Unit) (ξ := Unit) (fun l m => []) (fun l m => []) ?_ ?_
 ·refine sr <| la 1 ((6, S _ _ _) :: _) rfl <| vn 7 g rfl <| la 1 ((8, I _) :: _) rfl <| nn <| cm_block <| cm_loop (σ := Int) (ξ := Unit) (fun i o => [(0, S b d e), (1, .func (.func 125) #[] #[.pointer (some ⟨a, 0, none⟩)]), (7, I (List.length p0 : Int)), (8, I i)]) (fun i o => []) () ?_ ?_ ?_
  ·exact sq
  ·exact sh []
  intro i o
  refine sr <| la 1 ((9, B _) :: _) rfl <| nn <| cm_seq <| cc rfl (fun t => ?_) (fun t => ?_)
  ·refine sk <| cm_seq <| cm_block <| sr <| la 2 ((5, I _) :: (10, I _) :: _) rfl <| nn <| sr <| la 3 ((13, I _) :: (12, S _ _ _) :: (11, .func _ _ _) :: _) rfl <| lm_ck (fun q => ?_)
   refine vi 14 7 f g q rfl rfl <| vr 15 f q rfl <| lm_call 16 (V := VB) (HR := H0) (by kernel_rfl) (fun w1 => op_callv rfl (by kernel_rfl)) (fun r1 hr1 w1 c1 => m_audit_invoice_record_1_ok N w1 (ix p0 i) p1c0 a (c1.oblk j) r1 hr1) fun y z => nn <| cB rfl (fun v => ?_) (fun v => ?_)
   ·exact sr <| la 2 ((4, I _) :: (17, I _) :: _) rfl <| nn <| cm_ret <| xm_inR <| xm_thenR <| xm_lret <| xm_inR <| xm_lret <| xr [] ()
   ·refine cm_skip <| xm_inN <| xm_next <| cm_region <| lm_ck (fun x => ?_)
    exact va 18 x rfl rfl <| la 1 ((8, I _) :: _) rfl <| lm_nil <| xn () []
  ·exact cm_exit <| xm_thenE <| xm_lexit <| xm_here <| xm_lnext () sub_nil (sh [])
 intro l m
 exact sr <| la 1 ((4, I _) :: _) rfl <| nn <| cm_ret <| xr [] ()
/-- (*audit.invoice).record -/
def m_audit_invoice_record (N : Nat) (p0 : AuditInvoice) (p1 : Int) : Option (Int × Bool) :=
 Option.bind (m_slices_IndexFunc_audit_invoice_record_1 N p0.account_.Emptyings p1) fun r6 => (if r6 < 0 then
  some (((0 : Int), false))
 else
  ck (0 ≤ r6 ∧ r6 < (List.length p0.account_.Emptyings : Int)) (
   Option.bind (m_audit_invoice_moments N (AuditInvoice.mk p0.Bill p0.account_ p0.base_ p0.counted_ ())) fun b => Option.bind (m_household_Owner N p0.account_.Assigns ((ix p0.account_.Emptyings r6).Container) ((ix p0.account_.Emptyings r6).At)) fun a => some ((r6, (((a.2 && (decide (a.1 = p0.Bill.Household))) && (decide (b.From ≤ (ix p0.account_.Emptyings r6).At))) && (decide ((ix p0.account_.Emptyings r6).At < b.To)))))))
set_option maxHeartbeats 2000000 in
set_option maxRecDepth 20000 in
theorem m_audit_invoice_record_ok (N : Nat) (w0 : World) (p0 : AuditInvoice) (p1 : Int) (l : Nat) (m : Ad) (o q : Nat) (t : Ad) (y z : Nat) (C : Ad) (G J : Nat) (a : Ad) (e f : Nat) (b : Ad) (g i : Nat) (K : Ad) (L M : Nat) (O : Ad) (Q U : Nat) (V : Ad) (X Y : Nat) (f_p09 : Value) (d : Blk w0 l 74 [I p0.Bill.ID, I p0.Bill.Household, I p0.Bill.When.From, I p0.Bill.When.To, S m o q, I p0.Bill.Total, S t y z, S C G J, S a e f, S b g i, S K L M, I p0.account_.Gap, S O Q U, S V X Y, f_p09]) (ah : RdE w0 4 encApiAssign a p0.account_.Assigns) (ai : SW a e f (List.length p0.account_.Assigns)) (a0 : RdE w0 7 encApiEmptying b p0.account_.Emptyings) (ab : SW b g i (List.length p0.account_.Emptyings)) (r : Int × Bool) (hr : m_audit_invoice_record N p0 p1 = some r) :
  Ret Tryz.prog 72 [.pointer (some ⟨l, 0, none⟩), I p1] w0 (fun (r : Int × Bool) (_u : Unit) => .tuple #[I r.1, B r.2]) H0 r := by
 refine calls_v (n := 68) r hr Tryz.func72 ?_
 unfold m_audit_invoice_record
 refine sr <| bx 3 [I _] rfl fun b5 => la 2 ((5, B false) :: (4, I _) :: _) rfl <| nn <| sr <| la 1 ((11, .pointer (some ⟨_, _, _⟩)) :: _) rfl <| v_ 12 (fun _ _ => op_nilCheck rfl) <| vf 13 6 6 rfl <| vf 14 3 9 rfl <| v_ 15 (fun _ c1 => oL (c1.ocell (d.at_ 9 (u := S _ _ _) rfl))) <| v_ 16 (fun _ _ => op_makeFuncC [.pointer (some ⟨_, _, _⟩)] rfl) <| lc 17 (fun r1 hr1 w1 c1 => m_slices_IndexFunc_audit_invoice_record_1_ok N w1 p0.account_.Emptyings p1 b g i b5 (a0.old c1) ab (c1.blk 0 rfl) r1 hr1) fun r6 u7 => la 1 ((6, I _) :: _) rfl <| nn <| cm_seq <| sr <| la 2 ((19, B _) :: (18, I _) :: _) rfl <| nn <| cc rfl (fun h8 => ?_) (fun h8 => ?_)
 ·exact sr <| la 2 ((5, B false) :: (4, I _) :: _) rfl <| nn <| cm_ret <| xm_thenR <| xrr [] ()
 ·refine sk <| cm_seq <| cm_ck (fun h9 => ?_)
  refine cm_bind fun Z ac => cm_held (ξ := Nat × Nat) (fun a3 => [(0, .pointer (some ⟨l, 0, none⟩)), (6, I r6), (7, .pointer (some ⟨a3.1, 0, none⟩)), (8, .pointer (some ⟨a3.2, 0, none⟩))]) (fun a3 => [blkE a3.1 117 [I ((ix p0.account_.Emptyings r6).ID), I ((ix p0.account_.Emptyings r6).Container), I ((ix p0.account_.Emptyings r6).Vehicle), I ((ix p0.account_.Emptyings r6).At), I ((ix p0.account_.Emptyings r6).Mass.Lo), I ((ix p0.account_.Emptyings r6).Mass.Hi), B ((ix p0.account_.Emptyings r6).Void)], blkE a3.2 49 [I Z.From, I Z.To]]) [blkE b5 3 [I p1]] 14 (by kernel_rfl) (by rfl) (hsub [0] (by kernel_rfl) (by rfl)) ?_ ?_
  ·intro cf j
   refine wt 0 20 rfl (fun w2 c2 => (op_move (v := .pointer (some ⟨_, _, _⟩)) rfl)) (hs [0] j) <| wt 1 21 rfl (fun w2 c2 => (op_nilCheck rfl)) (hs [0] j) <| wt 2 22 rfl (fun _ _ => oF 6 6 rfl) (hs [0] j) <| wt 3 23 rfl (fun _ _ => oF 3 9 rfl) (hs [0] j) <| wt 4 24 rfl (fun w2 c2 => (op_load rfl (by kernel_rfl) (c2.ocell (d.at_ 9 (u := S _ _ _) rfl)))) (hs [0] j) <| wt 5 25 rfl (fun w2 c2 => (op_move (v := I _) rfl)) (hs [0] j) <| wt 6 26 rfl (fun w2 c2 => oI 7 rfl rfl ((a0.old c2).addr h9.1 h9.2) ab.2.2 h9) (hs [0] j) <| wt 7 27 rfl (fun w2 c2 => (op_loadR [I ((ix p0.account_.Emptyings r6).ID), I ((ix p0.account_.Emptyings r6).Container), I ((ix p0.account_.Emptyings r6).Vehicle), I ((ix p0.account_.Emptyings r6).At), I ((ix p0.account_.Emptyings r6).Mass.Lo), I ((ix p0.account_.Emptyings r6).Mass.Hi), B ((ix p0.account_.Emptyings r6).Void)] rfl (by kernel_rfl) ((a0.old c2).row h9.1 h9.2))) (hs [0] j) <| wt 8 28 rfl (fun w2 c2 => (op_move (v := .pointer (some ⟨_, _, _⟩)) rfl)) (hs [0] j) <| wh_ready [9, 10, 11] (by kernel_rfl) rfl ⟨?_, ?_, ?_, trivial⟩
   ·refine ws_call 29 rfl (by kernel_rfl) (op_call (by kernel_rfl)) (m_audit_invoice_moments_ok N _ (AuditInvoice.mk p0.Bill p0.account_ p0.base_ p0.counted_ ()) l m o q t y z C G J a e f b g i K L M O Q U V X Y f_p09 (j.oblk d) Z ac) ?_
    rintro x cg ⟨ch, rfl, ad⟩
    replace ad := j.call ad
    refine ⟨_, rfl, (hs [0] ad), ?_⟩
    refine wh_ready [10, 11] (by kernel_rfl) rfl ⟨?_, ?_, trivial⟩
    ·refine ws_alloc 7 [I 0, I 0, I 0, I 0, I 0, I 0, B false] (v := .agg #[I 0, I 0, I 0, I 0, I 0, I 0, B false]) rfl (by kernel_rfl) (by kernel_rfl) rfl ad fun bg ci aj => ⟨(hs [1] aj), ?_⟩
     refine wh_ready [11] (by kernel_rfl) rfl ⟨?_, trivial⟩
     refine ws_alloc 8 [I 0, I 0] (v := .agg #[I 0, I 0]) rfl (by kernel_rfl) (by kernel_rfl) rfl aj fun b8 bh ak => ⟨(hs [2] ak), ?_⟩
     refine wh_ready [12] (by kernel_rfl) rfl ⟨?_, trivial⟩
     refine ws_storeA 1 [I _, I _, I _, I _, I _, I _, B _] [_, _, _, _, _, _, _] rfl (by kernel_rfl) rfl rfl (by kernel_rfl) rfl rfl (by kernel_rfl) rfl (H' := [_, blkE _ _ [_, _, _, _, _, _, _], _]) rfl ak fun bi am => ⟨(hs [2] am), ?_⟩
     refine wh_ready [13] (by kernel_rfl) rfl ⟨?_, trivial⟩
     refine ws_storeA 0 [I _, I _] [_, _] rfl (by kernel_rfl) rfl rfl (by kernel_rfl) rfl rfl (by kernel_rfl) rfl (H' := [blkE _ _ [_, _], _, _]) rfl am fun bj an => ⟨(hs [2] an), ?_⟩
     exact wh_done (bg, b8) (by kernel_rfl) sq (hs [1, 0] an)
    ·refine ws_alloc 8 [I 0, I 0] (v := .agg #[I 0, I 0]) rfl (by kernel_rfl) (by kernel_rfl) rfl ad fun b9 bk ao => ⟨(hs [1] ao), ?_⟩
     refine wh_ready [10] (by kernel_rfl) rfl ⟨?_, trivial⟩
     refine ws_alloc 7 [I 0, I 0, I 0, I 0, I 0, I 0, B false] (v := .agg #[I 0, I 0, I 0, I 0, I 0, I 0, B false]) rfl (by kernel_rfl) (by kernel_rfl) rfl ao fun ba bl aq => ⟨(hs [2] aq), ?_⟩
     refine wh_ready [12] (by kernel_rfl) rfl ⟨?_, trivial⟩
     refine ws_storeA 0 [I _, I _, I _, I _, I _, I _, B _] [_, _, _, _, _, _, _] rfl (by kernel_rfl) rfl rfl (by kernel_rfl) rfl rfl (by kernel_rfl) rfl (H' := [blkE _ _ [_, _, _, _, _, _, _], _, _]) rfl aq fun bm ar => ⟨(hs [2] ar), ?_⟩
     refine wh_ready [13] (by kernel_rfl) rfl ⟨?_, trivial⟩
     refine ws_storeA 1 [I _, I _] [_, _] rfl (by kernel_rfl) rfl rfl (by kernel_rfl) rfl rfl (by kernel_rfl) rfl (H' := [_, blkE _ _ [_, _], _]) rfl ar fun bn au => ⟨(hs [2] au), ?_⟩
     exact wh_done (ba, b9) (by kernel_rfl) sq (hs [0, 1] au)
   ·refine ws_alloc 7 [I 0, I 0, I 0, I 0, I 0, I 0, B false] (v := .agg #[I 0, I 0, I 0, I 0, I 0, I 0, B false]) rfl (by kernel_rfl) (by kernel_rfl) rfl j fun av bo a4 => ⟨(hs [1] a4), ?_⟩
    refine wh_ready [9, 11] (by kernel_rfl) rfl ⟨?_, ?_, trivial⟩
    ·refine ws_call 29 rfl (by kernel_rfl) (op_call (by kernel_rfl)) (m_audit_invoice_moments_ok N _ (AuditInvoice.mk p0.Bill p0.account_ p0.base_ p0.counted_ ()) l m o q t y z C G J a e f b g i K L M O Q U V X Y f_p09 (a4.oblk d) Z ac) ?_
     rintro x bp ⟨bq, rfl, a5⟩
     replace a5 := a4.call a5
     refine ⟨_, rfl, (hs [1] a5), ?_⟩
     refine wh_ready [11] (by kernel_rfl) rfl ⟨?_, trivial⟩
     refine ws_alloc 8 [I 0, I 0] (v := .agg #[I 0, I 0]) rfl (by kernel_rfl) (by kernel_rfl) rfl a5 fun bb br aw => ⟨(hs [2] aw), ?_⟩
     refine wh_ready [12] (by kernel_rfl) rfl ⟨?_, trivial⟩
     refine ws_storeA 1 [I _, I _, I _, I _, I _, I _, B _] [_, _, _, _, _, _, _] rfl (by kernel_rfl) rfl rfl (by kernel_rfl) rfl rfl (by kernel_rfl) rfl (H' := [_, blkE _ _ [_, _, _, _, _, _, _], _]) rfl aw fun bs ax => ⟨(hs [2] ax), ?_⟩
     refine wh_ready [13] (by kernel_rfl) rfl ⟨?_, trivial⟩
     refine ws_storeA 0 [I _, I _] [_, _] rfl (by kernel_rfl) rfl rfl (by kernel_rfl) rfl rfl (by kernel_rfl) rfl (H' := [blkE _ _ [_, _], _, _]) rfl ax fun bt ay => ⟨(hs [2] ay), ?_⟩
     exact wh_done (av, bb) (by kernel_rfl) sq (hs [1, 0] ay)
    ·refine ws_alloc 8 [I 0, I 0] (v := .agg #[I 0, I 0]) rfl (by kernel_rfl) (by kernel_rfl) rfl a4 fun bc bu ae => ⟨(hs [2] ae), ?_⟩
     refine wh_ready [9] (by kernel_rfl) rfl ⟨?_, trivial⟩
     refine ws_call 29 rfl (by kernel_rfl) (op_call (by kernel_rfl)) (m_audit_invoice_moments_ok N _ (AuditInvoice.mk p0.Bill p0.account_ p0.base_ p0.counted_ ()) l m o q t y z C G J a e f b g i K L M O Q U V X Y f_p09 (ae.oblk d) Z ac) ?_
     rintro x bv ⟨bw, rfl, a6⟩
     replace a6 := ae.call a6
     refine ⟨_, rfl, (hs [2] a6), ?_⟩
     refine wh_ready [12] (by kernel_rfl) rfl ⟨?_, trivial⟩
     refine ws_storeA 1 [I _, I _, I _, I _, I _, I _, B _] [_, _, _, _, _, _, _] rfl (by kernel_rfl) rfl rfl (by kernel_rfl) rfl rfl (by kernel_rfl) rfl (H' := [_, blkE _ _ [_, _, _, _, _, _, _], _]) rfl a6 fun bz az => ⟨(hs [2] az), ?_⟩
     refine wh_ready [13] (by kernel_rfl) rfl ⟨?_, trivial⟩
     refine ws_storeA 0 [I _, I _] [_, _] rfl (by kernel_rfl) rfl rfl (by kernel_rfl) rfl rfl (by kernel_rfl) rfl (H' := [blkE _ _ [_, _], _, _]) rfl az fun c0 b0 => ⟨(hs [2] b0), ?_⟩
     exact wh_done (av, bc) (by kernel_rfl) sq (hs [1, 0] b0)
   ·refine ws_alloc 8 [I 0, I 0] (v := .agg #[I 0, I 0]) rfl (by kernel_rfl) (by kernel_rfl) rfl j fun b1 c3 a7 => ⟨(hs [1] a7), ?_⟩
    refine wh_ready [9, 10] (by kernel_rfl) rfl ⟨?_, ?_, trivial⟩
    ·refine ws_call 29 rfl (by kernel_rfl) (op_call (by kernel_rfl)) (m_audit_invoice_moments_ok N _ (AuditInvoice.mk p0.Bill p0.account_ p0.base_ p0.counted_ ()) l m o q t y z C G J a e f b g i K L M O Q U V X Y f_p09 (a7.oblk d) Z ac) ?_
     rintro x c4 ⟨c5, rfl, a8⟩
     replace a8 := a7.call a8
     refine ⟨_, rfl, (hs [1] a8), ?_⟩
     refine wh_ready [10] (by kernel_rfl) rfl ⟨?_, trivial⟩
     refine ws_alloc 7 [I 0, I 0, I 0, I 0, I 0, I 0, B false] (v := .agg #[I 0, I 0, I 0, I 0, I 0, I 0, B false]) rfl (by kernel_rfl) (by kernel_rfl) rfl a8 fun bd c6 b2 => ⟨(hs [2] b2), ?_⟩
     refine wh_ready [12] (by kernel_rfl) rfl ⟨?_, trivial⟩
     refine ws_storeA 0 [I _, I _, I _, I _, I _, I _, B _] [_, _, _, _, _, _, _] rfl (by kernel_rfl) rfl rfl (by kernel_rfl) rfl rfl (by kernel_rfl) rfl (H' := [blkE _ _ [_, _, _, _, _, _, _], _, _]) rfl b2 fun c7 b3 => ⟨(hs [2] b3), ?_⟩
     refine wh_ready [13] (by kernel_rfl) rfl ⟨?_, trivial⟩
     refine ws_storeA 1 [I _, I _] [_, _] rfl (by kernel_rfl) rfl rfl (by kernel_rfl) rfl rfl (by kernel_rfl) rfl (H' := [_, blkE _ _ [_, _], _]) rfl b3 fun c8 b4 => ⟨(hs [2] b4), ?_⟩
     exact wh_done (bd, b1) (by kernel_rfl) sq (hs [0, 1] b4)
    ·refine ws_alloc 7 [I 0, I 0, I 0, I 0, I 0, I 0, B false] (v := .agg #[I 0, I 0, I 0, I 0, I 0, I 0, B false]) rfl (by kernel_rfl) (by kernel_rfl) rfl a7 fun be c9 af => ⟨(hs [2] af), ?_⟩
     refine wh_ready [9] (by kernel_rfl) rfl ⟨?_, trivial⟩
     refine ws_call 29 rfl (by kernel_rfl) (op_call (by kernel_rfl)) (m_audit_invoice_moments_ok N _ (AuditInvoice.mk p0.Bill p0.account_ p0.base_ p0.counted_ ()) l m o q t y z C G J a e f b g i K L M O Q U V X Y f_p09 (af.oblk d) Z ac) ?_
     rintro x ca ⟨cb, rfl, a9⟩
     replace a9 := af.call a9
     refine ⟨_, rfl, (hs [2] a9), ?_⟩
     refine wh_ready [12] (by kernel_rfl) rfl ⟨?_, trivial⟩
     refine ws_storeA 0 [I _, I _, I _, I _, I _, I _, B _] [_, _, _, _, _, _, _] rfl (by kernel_rfl) rfl rfl (by kernel_rfl) rfl rfl (by kernel_rfl) rfl (H' := [blkE _ _ [_, _, _, _, _, _, _], _, _]) rfl a9 fun cd b6 => ⟨(hs [2] b6), ?_⟩
     refine wh_ready [13] (by kernel_rfl) rfl ⟨?_, trivial⟩
     refine ws_storeA 1 [I _, I _] [_, _] rfl (by kernel_rfl) rfl rfl (by kernel_rfl) rfl rfl (by kernel_rfl) rfl (H' := [_, blkE _ _ [_, _], _]) rfl b6 fun ce b7 => ⟨(hs [2] b7), ?_⟩
     exact wh_done (be, b1) (by kernel_rfl) sq (hs [0, 1] b7)
  intro a3
  refine xm_next <| cm_seq <| cm_bind fun a1 bf => cm_drawn [(9, I a1.1), (10, B a1.2)] (by kernel_rfl) (by kernel_rfl) ?_ ?_
  ·exact qa 1 ((31, .pointer (some ⟨_, _, _⟩)) :: _) rfl <| q_ 32 (fun _ _ => op_nilCheck rfl) <| qf 33 6 6 rfl <| qf 34 2 8 rfl <| q_ 35 (fun _ c1 => oL (c1.ocell (d.at_ 8 (u := S _ _ _) rfl))) <| qf 36 1 1 rfl <| qc 37 0 rfl rfl rfl <| qf 38 3 3 rfl <| qc 39 0 rfl rfl rfl <| qk 40 (fun w1 c1 => m_household_Owner_ok N w1 p0.account_.Assigns ((ix p0.account_.Emptyings r6).Container) ((ix p0.account_.Emptyings r6).At) a e f (ah.old c1) ai a1 bf) <| qa 5 ((10, B _) :: (9, I _) :: (42, B _) :: (41, I _) :: (30, .tuple _) :: _) rfl <| lq 15
  refine xm_next <| cm_seq <| cm_drawn [(4, I r6), (5, B (((a1.2 && (decide (a1.1 = p0.Bill.Household))) && (decide (Z.From ≤ (ix p0.account_.Emptyings r6).At))) && (decide ((ix p0.account_.Emptyings r6).At < Z.To))))] (by kernel_rfl) (by kernel_rfl) ?_ ?_
  ·refine qa 1 ((43, I _) :: _) rfl <| wq_bool 44 (by kernel_rfl) (fun w1 c1 => (op_move (v := B _) rfl)) (fun a2 => ?_) (fun a2 => ?_)
   ·refine qa 3 ((47, .pointer (some ⟨_, _, _⟩)) :: (46, I _) :: (45, B true) :: _) rfl <| q_ 48 (fun _ _ => op_nilCheck rfl) <| qf 49 0 0 rfl <| qf 50 1 1 rfl <| q_ 51 (fun _ c1 => oL (c1.ocell (d.at_ 1 (u := I _) rfl))) <| qd 52 (fun _ _ => op_eql rfl rfl) (fun aa => ?_) (fun aa => ?_)
    ·refine qa 2 ((54, B true) :: (53, B true) :: _) rfl <| qf 55 0 0 rfl <| qc 56 1 rfl rfl rfl <| qf 57 3 3 rfl <| qc 58 0 rfl rfl rfl <| qd 59 (fun _ _ => op_leq rfl rfl) (fun ag => ?_) (fun ag => ?_)
     ·exact qa 2 ((61, B true) :: (60, B true) :: _) rfl <| qf 62 3 3 rfl <| qc 63 0 rfl rfl rfl <| qf 64 1 1 rfl <| qc 65 1 rfl rfl rfl <| qa 4 ((5, B _) :: (4, I _) :: (67, B _) :: (66, B _) :: _) rfl <| lf 27 ⟨rfl, (congrArg B (by rw [a2, dt aa, dt ag] <;> rfl)), trivial⟩
     ·exact qa 10 ((5, B false) :: (4, I _) :: (67, B false) :: uz 66 5 ((61, B false) :: (60, B false) :: _)) rfl <| lf 27 ⟨rfl, (congrArg B (by rw [a2, dt aa, df ag] <;> rfl)), trivial⟩
    ·exact qa 17 ((5, B false) :: (4, I _) :: (67, B false) :: uz 66 5 ((61, B false) :: (60, B false) :: uz 59 5 ((54, B false) :: (53, B false) :: _))) rfl <| lf 27 ⟨rfl, (congrArg B (by rw [a2, df aa] <;> rfl)), trivial⟩
   ·exact qa 25 ((5, B false) :: (4, I _) :: (67, B false) :: uz 66 5 ((61, B false) :: (60, B false) :: uz 59 5 ((54, B false) :: (53, B false) :: uz 52 7 ((45, B false) :: _)))) rfl <| lf 27 ⟨rfl, (congrArg B (by rw [a2] <;> rfl)), trivial⟩
  exact xm_next <| cm_ret <| xrr [] ()
/-- slices.Index -/
def m_slices_Index (N : Nat) (p0 : (List ApiItem)) (p1 : ApiItem) : Option (Int) :=
 (andThen
  (loopM (fun (a : Int) =>
   (if a < (List.length p0 : Int) then
    ck (0 ≤ a ∧ a < (List.length p0 : Int)) (
     (if p1 = (ix p0 a) then
      some (.done (.done (a)))
     else
      ck (I64 (a + 1)) (
       some (.next (a + 1)))))
   else
    some (.done (.next ())))) N 0)
 fun (_s24 : Unit) =>
  some ((-1 : Int)))
set_option maxRecDepth 20000 in
theorem m_slices_Index_ok (N : Nat) (w0 : World) (p0 : (List ApiItem)) (p1 : ApiItem) (a : Ad) (d e : Nat) (f : RdE w0 5 encApiItem a p0) (g : SW a d e (List.length p0)) (r : Int) (hr : m_slices_Index N p0 p1 = some r) :
  Ret Tryz.prog 122 [S a d e, .agg #[I p1.Kind, I p1.Ref, I p1.Count, I p1.Price, I p1.Amount]] w0 VI H0 r := by
 refine calls_v (n := 19) r hr Tryz.func122 ?_
 unfold m_slices_Index
 refine sr <| bx 3 [I _, I _, I _, I _, I _] rfl fun b5 => la 1 ((4, I _) :: _) rfl <| nn <| cm_join (σ := Unit) (ξ := Unit) (fun i j => []) (fun i j => []) ?_ ?_
 ·refine sr <| la 1 ((6, S _ _ _) :: _) rfl <| vn 7 g rfl <| la 1 ((8, I _) :: _) rfl <| nn <| cm_block <| cm_loop (σ := Int) (ξ := Unit) (fun b l => [(0, S a d e), (3, .pointer (some ⟨b5, 0, none⟩)), (7, I (List.length p0 : Int)), (8, I b)]) (fun b l => [blkE b5 100 [I p1.Kind, I p1.Ref, I p1.Count, I p1.Price, I p1.Amount]]) () ?_ ?_ ?_
  ·exact sq
  ·exact sh [0]
  intro b l
  refine sr <| la 1 ((9, B _) :: _) rfl <| nn <| cm_seq <| cc rfl (fun o => ?_) (fun o => ?_)
  ·refine sk <| cm_seq <| cm_block <| sr <| la 2 ((5, I _) :: (10, I _) :: _) rfl <| nn <| cm_seq <| cm_ck (fun m => ?_)
   refine cm_drawn [(16, B (decide (p1 = (ix p0 b))))] (by kernel_rfl) (by kernel_rfl) ?_ ?_
   ·exact qR 11 [I _, I _, I _, I _, I _] 0 rfl rfl rfl <| qa 2 ((13, I _) :: (12, S _ _ _) :: _) rfl <| qi 14 5 f g m rfl rfl <| qr 15 f m rfl <| q_ 16 (fun _ _ => op_eqApiItem p1 (ix p0 b) rfl rfl) <| lq 6
   refine xm_next <| cc rfl (fun q => ?_) (fun q => ?_)
   ·exact sr <| la 2 ((4, I _) :: (17, I _) :: _) rfl <| nn <| cm_ret <| xm_inR <| xm_thenR <| xm_lret <| xm_inR <| xm_lret <| xr [] ()
   ·refine cm_skip <| xm_inN <| xm_next <| cm_region <| lm_ck (fun t => ?_)
    exact va 18 t rfl rfl <| la 1 ((8, I _) :: _) rfl <| lm_nil <| xn () [0]
  ·exact cm_exit <| xm_thenE <| xm_lexit <| xm_here <| xm_lnext () sub_nil (sh [])
 intro i j
 exact sr <| la 1 ((4, I _) :: _) rfl <| nn <| cm_ret <| xr [] ()
/-- slices.Contains -/
def m_slices_Contains (N : Nat) (p0 : (List ApiItem)) (p1 : ApiItem) : Option (Bool) :=
 Option.bind (m_slices_Index N p0 p1) fun r6 => some ((decide (0 ≤ r6)))
set_option maxRecDepth 20000 in
theorem m_slices_Contains_ok (N : Nat) (w0 : World) (p0 : (List ApiItem)) (p1 : ApiItem) (a : Ad) (b d : Nat) (e : RdE w0 5 encApiItem a p0) (f : SW a b d (List.length p0)) (r : Bool) (hr : m_slices_Contains N p0 p1 = some r) :
  Ret Tryz.prog 70 [S a b d, .agg #[I p1.Kind, I p1.Ref, I p1.Count, I p1.Price, I p1.Amount]] w0 VB H0 r := by
 refine calls_v (n := 9) r hr Tryz.func70 ?_
 unfold m_slices_Contains
 exact sr <| bx 3 [I _, I _, I _, I _, I _] rfl fun b5 => la 1 ((4, B false) :: _) rfl <| nn <| sr <| la 1 ((5, S _ _ _) :: _) rfl <| vR 6 [I _, I _, I _, I _, I _] 0 rfl rfl rfl <| lc 7 (fun r1 hr1 w1 c1 => m_slices_Index_ok N w1 p0 p1 a b d (e.old c1) f r1 hr1) fun r6 u7 => la 2 ((4, B _) :: (8, B _) :: _) rfl <| nn <| cm_ret <| xr [] ()
/-- (*audit.invoice).right -/
def m_audit_invoice_right (N : Nat) (p0 : AuditInvoice) (p1 : ApiItem) : Option (Bool) :=
 (if p1.Kind = 1 then
  Option.bind (m_slices_Contains N p0.base_ p1) fun r7 => some (r7)
 else
  (andThen
   (if p1.Kind = 2 then
    some (.next (decide (p1.Kind = 2)))
   else
    some (.next (decide (p1.Kind = 3))))
  fun (e : Bool) =>
   (if e = true then
    Option.bind (m_audit_invoice_record N (AuditInvoice.mk p0.Bill p0.account_ p0.base_ p0.counted_ ()) p1.Ref) fun a => (if (!a.2) = true then
     some (false)
    else
     ck (0 ≤ a.1 ∧ a.1 < (List.length p0.account_.Emptyings : Int)) (
      ck (I64 ((ix p0.account_.Emptyings a.1).At)) (
       Option.bind (m_tariff_At N p0.account_.Tariffs (Int.tdiv ((ix p0.account_.Emptyings a.1).At) 86400)) fun b => (if b.2 ≠ 0 then
        some (false)
       else
        ck (0 ≤ b.1 ∧ b.1 < (List.length p0.account_.Tariffs : Int)) (
         Option.bind (m_tariff_Items N (ix p0.account_.Tariffs b.1) (ix p0.account_.Emptyings a.1)) fun d => callIf (decide (d.2 = 0) = true) (m_slices_Contains N d.1 p1) fun f => some (((decide (d.2 = 0)) && f)))))))
   else
    (if p1.Kind = 4 then
     some ((decide (p1.Amount < 0)))
    else
     some (false)))))
set_option maxHeartbeats 2000000 in
set_option maxRecDepth 20000 in
theorem m_audit_invoice_right_ok (N : Nat) (w0 : World) (p0 : AuditInvoice) (p1 : ApiItem) (K : Nat) (Y : Ad) (Z a0 : Nat) (a1 : Ad) (a2 a3 : Nat) (a4 : Ad) (a5 a6 : Nat) (l : Ad) (L M : Nat) (m : Ad) (O Q : Nat) (e : Ad) (o q : Nat) (f : Ad) (t y : Nat) (a7 : Ad) (a8 a9 : Nat) (f_p09 : Value) (g : Blk w0 K 74 [I p0.Bill.ID, I p0.Bill.Household, I p0.Bill.When.From, I p0.Bill.When.To, S Y Z a0, I p0.Bill.Total, S a1 a2 a3, S a4 a5 a6, S l L M, S m O Q, S e o q, I p0.account_.Gap, S f t y, S a7 a8 a9, f_p09]) (ab : RdE w0 4 encApiAssign l p0.account_.Assigns) (ac : SW l L M (List.length p0.account_.Assigns)) (z : RdE w0 7 encApiEmptying m p0.account_.Emptyings) (U : SW m O Q (List.length p0.account_.Emptyings)) (C : RdE w0 5 encApiTariff e p0.account_.Tariffs) (V : SW e o q (List.length p0.account_.Tariffs)) (ad : RdE w0 5 encApiItem f p0.base_) (ae : SW f t y (List.length p0.base_)) (r : Bool) (hr : m_audit_invoice_right N p0 p1 = some r) :
  Ret Tryz.prog 67 [.pointer (some ⟨K, 0, none⟩), .agg #[I p1.Kind, I p1.Ref, I p1.Count, I p1.Price, I p1.Amount]] w0 VB H0 r := by
 refine calls_v (n := 80) r hr Tryz.func67 ?_
 unfold m_audit_invoice_right
 refine sr <| bx 3 [I _, I _, I _, I _, I _] rfl fun b5 => la 1 ((4, B false) :: _) rfl <| nn <| cm_seq <| sr <| vf 11 0 0 rfl <| vc 12 0 rfl rfl rfl <| nn <| cm_block <| sr <| la 2 ((13, B _) :: (14, B _) :: _) rfl <| nn <| cc rfl (fun h6 => ?_) (fun h6 => ?_)
 ·refine cm_seq <| cm_bind fun r7 h8 => cm_drawn [(4, B r7)] (by kernel_rfl) (by kernel_rfl) ?_ ?_
  ·exact qa 1 ((15, .pointer (some ⟨_, _, _⟩)) :: _) rfl <| q_ 16 (fun _ _ => op_nilCheck rfl) <| qf 17 12 12 rfl <| q_ 18 (fun _ c1 => oL (c1.ocell (g.at_ 12 (u := S _ _ _) rfl))) <| qR 19 [I _, I _, I _, I _, I _] 0 rfl rfl rfl <| qk 20 (fun w1 c1 => m_slices_Contains_ok N w1 p0.base_ p1 f t y (ad.old c1) ae r7 h8) <| qa 1 ((4, B _) :: _) rfl <| lq 7
  exact xm_next <| cm_ret <| xm_inR <| xm_thenR <| xr [] ()
 ·refine cm_join (σ := Bool) (ξ := Unit) (fun af ag => [(0, .pointer (some ⟨K, 0, none⟩)), (3, .pointer (some ⟨b5, 0, none⟩)), (12, I p1.Kind), (21, B af)]) (fun af ag => [blkE b5 100 [I p1.Kind, I p1.Ref, I p1.Count, I p1.Price, I p1.Amount]]) ?_ ?_
  ·refine sr <| la 2 ((21, B _) :: (22, B _) :: _) rfl <| nn <| cc rfl (fun ak => ?_) (fun ak => ?_)
   ·exact cm_skip <| xn () [0]
   ·exact cm_region <| la 2 ((21, B _) :: (23, B _) :: _) rfl <| lm_nil <| xn () [0]
  intro af ag
  refine cB rfl (fun am => ?_) (fun am => ?_)
  ·refine sr <| la 1 ((25, .pointer (some ⟨_, _, _⟩)) :: _) rfl <| vf 26 1 1 rfl <| vc 27 0 rfl rfl rfl <| lc 28 (fun r1 hr1 w1 c1 => m_audit_invoice_record_ok N w1 (AuditInvoice.mk p0.Bill p0.account_ p0.base_ p0.counted_ ()) p1.Ref K Y Z a0 a1 a2 a3 a4 a5 a6 l L M m O Q e o q f t y a7 a8 a9 f_p09 (c1.oblk g) (ab.old c1) ac (z.old c1) U r1 hr1) fun a ax => la 5 ((6, B _) :: (5, I _) :: (30, B _) :: (29, I _) :: (24, .tuple _) :: _) rfl <| nn <| cm_seq <| sr <| la 2 ((32, B _) :: (31, B _) :: _) rfl <| nn <| cB rfl (fun an => ?_) (fun an => ?_)
   ·exact sr <| la 1 ((4, B false) :: _) rfl <| nn <| cm_ret <| xm_thenR <| xm_inR <| xm_thenR <| xr [] ()
   ·refine sk <| sr <| la 1 ((33, .pointer (some ⟨_, _, _⟩)) :: _) rfl <| v_ 34 (fun _ _ => op_nilCheck rfl) <| vf 35 6 6 rfl <| vf 36 3 9 rfl <| v_ 37 (fun _ c1 => oL (c1.ocell (g.at_ 9 (u := S _ _ _) rfl))) <| la 1 ((38, I _) :: _) rfl <| lm_ck (fun ah => ?_)
    refine vi 39 7 z U ah rfl rfl <| vr 40 z ah rfl <| al 7 [I 0, I 0, I 0, I 0, I 0, I 0, B false] (v := .agg #[I 0, I 0, I 0, I 0, I 0, I 0, B false]) rfl fun ai => sA 0 [I _, I _, I _, I _, I _, I _, B _] [_, _, _, _, _, _, _] (H' := [blkE _ _ [_, _, _, _, _, _, _], _]) rfl rfl rfl rfl rfl rfl <| nn <| cm_seq <| cm_ck (fun ao => ?_)
    refine cm_bind fun i aq => cm_drawn [(8, I i.1), (9, I i.2)] (by kernel_rfl) (by kernel_rfl) ?_ ?_
    ·exact qa 1 ((42, .pointer (some ⟨_, _, _⟩)) :: _) rfl <| q_ 43 (fun _ _ => op_nilCheck rfl) <| qf 44 6 6 rfl <| qf 45 4 10 rfl <| q_ 46 (fun _ c1 => oL (c1.ocell (g.at_ 10 (u := S _ _ _) rfl))) <| qf 47 3 3 rfl <| qc 48 0 rfl rfl rfl <| q_ 49 (fun _ _ => op_quoK rfl rfl (by kernel_rfl) ao) <| qk 50 (fun w1 c1 => m_tariff_At_ok N w1 p0.account_.Tariffs (Int.tdiv ((ix p0.account_.Emptyings a.1).At) 86400) e o q (C.old c1) V i aq) <| qa 5 ((9, I _) :: (8, I _) :: (52, I _) :: (51, I _) :: (41, .tuple _) :: _) rfl <| lq 14
    refine xm_next <| cm_seq <| sr <| la 2 ((54, B _) :: (53, I _) :: _) rfl <| nn <| cc rfl (fun ar => ?_) (fun ar => ?_)
    ·exact sr <| la 1 ((4, B false) :: _) rfl <| nn <| cm_ret <| xm_thenR <| xm_inR <| xm_thenR <| xr [] ()
    ·refine sk <| cm_seq <| cm_ck (fun X => ?_)
     refine cm_bind fun G au => cm_held (ξ := Hdr) (fun b => [(3, .pointer (some ⟨b5, 0, none⟩)), (9, I G.2), (10, S b.1 b.2.1 b.2.2)]) (fun b => [blkE b5 100 [I p1.Kind, I p1.Ref, I p1.Count, I p1.Price, I p1.Amount], ownE 100 5 encApiItem b.1 b.2.1 b.2.2 G.1]) [blkE ai 117 [I ((ix p0.account_.Emptyings a.1).ID), I ((ix p0.account_.Emptyings a.1).Container), I ((ix p0.account_.Emptyings a.1).Vehicle), I ((ix p0.account_.Emptyings a.1).At), I ((ix p0.account_.Emptyings a.1).Mass.Lo), I ((ix p0.account_.Emptyings a.1).Mass.Hi), B ((ix p0.account_.Emptyings a.1).Void)], blkE b5 100 [I p1.Kind, I p1.Ref, I p1.Count, I p1.Price, I p1.Amount]] 15 (by kernel_rfl) (by rfl) (hsub [0, 1] (by kernel_rfl) (by rfl)) ?_ ?_
     ·intro ay d
      refine wt 0 56 rfl (fun w2 c2 => (op_move (v := .pointer (some ⟨_, _, _⟩)) rfl)) (hs [0, 1] d) <| wt 1 57 rfl (fun w2 c2 => (op_nilCheck rfl)) (hs [0, 1] d) <| wt 2 58 rfl (fun _ _ => oF 6 6 rfl) (hs [0, 1] d) <| wt 3 59 rfl (fun _ _ => oF 4 10 rfl) (hs [0, 1] d) <| wt 4 60 rfl (fun w2 c2 => (op_load rfl (by kernel_rfl) (c2.ocell (g.at_ 10 (u := S _ _ _) rfl)))) (hs [0, 1] d) <| wt 5 61 rfl (fun w2 c2 => (op_move (v := I _) rfl)) (hs [0, 1] d) <| wt 6 62 rfl (fun w2 c2 => oI 5 rfl rfl ((C.old c2).addr X.1 X.2) V.2.2 X) (hs [0, 1] d) <| wt 7 63 rfl (fun w2 c2 => (op_loadR [I ((ix p0.account_.Tariffs i.1).From), I ((ix p0.account_.Tariffs i.1).Base), I ((ix p0.account_.Tariffs i.1).Empty), I ((ix p0.account_.Tariffs i.1).Kilo), I ((ix p0.account_.Tariffs i.1).Free)] rfl (by kernel_rfl) ((C.old c2).row X.1 X.2))) (hs [0, 1] d) <| wt 8 64 rfl (fun w2 c2 => (op_loadR [I _, I _, I _, I _, I _, I _, B _] rfl (by kernel_rfl) (c2.cells 0 rfl rfl))) (hs [0, 1] d) <| wh_ready [9] (by kernel_rfl) rfl ⟨?_, trivial⟩
      refine ws_call 65 rfl (by kernel_rfl) (op_call (by kernel_rfl)) (m_tariff_Items_ok N _ (ix p0.account_.Tariffs i.1) (ix p0.account_.Emptyings a.1)  G au) ?_
      rintro x az ⟨J, rfl, j⟩
      replace j := d.call j
      refine ⟨_, rfl, (hs [1, 2] j), ?_⟩
      exact wh_strong (Hs w0 [ownE 100 5 encApiItem J.1 J.2.1 J.2.2 G.1, blkE ai 117 [I ((ix p0.account_.Emptyings a.1).ID), I ((ix p0.account_.Emptyings a.1).Container), I ((ix p0.account_.Emptyings a.1).Vehicle), I ((ix p0.account_.Emptyings a.1).At), I ((ix p0.account_.Emptyings a.1).Mass.Lo), I ((ix p0.account_.Emptyings a.1).Mass.Hi), B ((ix p0.account_.Emptyings a.1).Void)], blkE b5 100 [I p1.Kind, I p1.Ref, I p1.Count, I p1.Price, I p1.Amount]]) (fun w2 c2 => hs [1, 2] c2) <| wt 10 55 rfl (fun w2 c2 => (op_move (v := .tuple _) rfl)) (hs [0, 1, 2] j) <| wt 11 66 rfl (fun w2 c2 => (op_extract (v := S _ _ _) rfl rfl)) (hs [0, 1, 2] j) <| wt 12 67 rfl (fun w2 c2 => (op_extract (v := I _) rfl rfl)) (hs [0, 1, 2] j) <| wt 13 10 rfl (fun w2 c2 => (op_assign (v := S _ _ _) rfl)) (hs [0, 1, 2] j) <| wt 14 9 rfl (fun w2 c2 => (op_assign (v := I _) rfl)) (hs [0, 1, 2] j) <| wh_done (J.1, J.2.1, J.2.2) (by kernel_rfl) sq (hs [2, 0] j)
     intro b
     refine xm_next <| cm_seq <| cm_callIf fun aj av => cm_cutE [(4, B ((decide (G.2 = 0)) && aj))] ?_ ?_
     ·refine qa 1 ((68, I _) :: _) rfl <| qd 69 (fun _ _ => op_eql rfl rfl) (fun aa => ?_) (fun aa => ?_)
      ·exact qa 2 ((71, S _ _ _) :: (70, B true) :: _) rfl <| qR 72 [I _, I _, I _, I _, I _] 0 rfl rfl rfl <| qk 73 (fun w1 c1 => m_slices_Contains_ok N w1 G.1 p1 b.1 b.2.1 b.2.2 (c1.own 1 rfl encApiItem_len) (c1.ownZ 1 rfl) aj (av (by rw [dt aa] <;> rfl))) <| qa 2 ((4, B _) :: (74, B _) :: _) rfl <| lb 8 rfl (by rw [dt aa] <;> rfl)
      ·exact qa 6 ((4, B false) :: (74, B false) :: uz 73 3 ((70, B false) :: _)) rfl <| lb 8 rfl (by rw [df aa] <;> rfl)
     exact xm_next <| cm_ret <| xm_inR <| xm_thenR <| xr [] ()
  ·refine sr <| la 2 ((75, B _) :: (76, B _) :: _) rfl <| nn <| cc rfl (fun aw => ?_) (fun aw => ?_)
   ·exact sr <| vf 77 4 4 rfl <| vc 78 0 rfl rfl rfl <| la 2 ((4, B _) :: (79, B _) :: _) rfl <| nn <| cm_ret <| xm_inR <| xm_thenR <| xr [] ()
   ·exact cm_skip <| xm_inN <| xm_next <| sr <| la 1 ((4, B false) :: _) rfl <| nn <| cm_ret <| xr [] ()
/-- (*audit.invoice).balanced -/
def m_audit_invoice_balanced (N : Nat) (p0 : AuditInvoice) : Option (Bool) :=
 (andThen
  (loopM (fun (a : Int × Int) =>
   (if a.2 < (List.length p0.Bill.Items : Int) then
    ck (0 ≤ a.2 ∧ a.2 < (List.length p0.Bill.Items : Int)) (
     (if ((decide ((ix p0.Bill.Items a.2).Amount < -1000000000000)) || (decide (1000000000000 < (ix p0.Bill.Items a.2).Amount))) = true then
      some (.done (.done (false)))
     else
      ck (I64 (a.1 + ((ix p0.Bill.Items a.2).Amount))) (
       ck (I64 (a.2 + 1)) (
        some (.next ((a.1 + ((ix p0.Bill.Items a.2).Amount)), (a.2 + 1)))))))
   else
    some (.done (.next a.1)))) N ((0 : Int), (0 : Int)))
 fun (b : Int) =>
  some ((decide (b = p0.Bill.Total))))
set_option maxHeartbeats 2000000 in
set_option maxRecDepth 20000 in
theorem m_audit_invoice_balanced_ok (N : Nat) (w0 : World) (p0 : AuditInvoice) (d : Nat) (a : Ad) (e f : Nat) (o : Ad) (q t : Nat) (x : Ad) (y z : Nat) (C : Ad) (G J : Nat) (K : Ad) (L M : Nat) (O : Ad) (Q U : Nat) (V : Ad) (X Y : Nat) (Z : Ad) (a0 a1 : Nat) (f_p09 : Value) (j : Blk w0 d 74 [I p0.Bill.ID, I p0.Bill.Household, I p0.Bill.When.From, I p0.Bill.When.To, S a e f, I p0.Bill.Total, S o q t, S x y z, S C G J, S K L M, S O Q U, I p0.account_.Gap, S V X Y, S Z a0 a1, f_p09]) (g : RdE w0 5 encApiItem a p0.Bill.Items) (i : SW a e f (List.length p0.Bill.Items)) (r : Bool) (hr : m_audit_invoice_balanced N p0 = some r) :
  Ret Tryz.prog 66 [.pointer (some ⟨d, 0, none⟩)] w0 VB H0 r := by
 refine calls_v (n := 36) r hr Tryz.func66 ?_
 unfold m_audit_invoice_balanced
 refine sr <| la 1 ((2, B false) :: _) rfl <| nn <| sr <| la 1 ((3, I _) :: _) rfl <| nn <| cm_join (σ := Int) (ξ := Unit) (fun l a2 => [(0, .pointer (some ⟨d, 0, none⟩)), (3, I l)]) (fun l a2 => []) ?_ ?_
 ·refine sr <| la 1 ((6, .pointer (some ⟨_, _, _⟩)) :: _) rfl <| v_ 7 (fun _ _ => op_nilCheck rfl) <| vf 8 0 0 rfl <| vf 9 4 4 rfl <| v_ 10 (fun _ c1 => oL (c1.ocell (j.at_ 4 (u := S _ _ _) rfl))) <| vn 11 i rfl <| la 1 ((12, I _) :: _) rfl <| nn <| cm_block <| cm_loop (σ := Int × Int) (ξ := Unit) (fun b a3 => [(0, .pointer (some ⟨d, 0, none⟩)), (3, I b.1), (10, S a e f), (11, I (List.length p0.Bill.Items : Int)), (12, I b.2)]) (fun b a3 => []) () ?_ ?_ ?_
  ·exact sq
  ·exact sh []
  intro b a3
  refine sr <| la 1 ((13, B _) :: _) rfl <| nn <| cm_seq <| cc rfl (fun a5 => ?_) (fun a5 => ?_)
  ·refine sk <| cm_seq <| cm_block <| sr <| lm_ck (fun a4 => ?_)
   refine vi 14 5 g i a4 rfl rfl <| vr 15 g a4 rfl <| al 5 [I 0, I 0, I 0, I 0, I 0] (v := .agg #[I 0, I 0, I 0, I 0, I 0]) rfl fun a9 => sA 0 [I _, I _, I _, I _, I _] [_, _, _, _, _] (H' := [blkE _ _ [_, _, _, _, _]]) rfl rfl rfl rfl rfl rfl <| nn <| cm_seq <| cm_seq <| cm_cutE [(23, B ((decide ((ix p0.Bill.Items b.2).Amount < -1000000000000)) || (decide (1000000000000 < (ix p0.Bill.Items b.2).Amount))))] ?_ ?_
   ·refine qf 16 4 4 rfl <| qc 17 0 rfl rfl rfl <| qd 18 (fun _ _ => op_lss rfl rfl) (fun m => ?_) (fun m => ?_)
    ·exact qa 5 ((23, B true) :: uz 22 3 ((19, B true) :: _)) rfl <| lb 8 rfl (by rw [dt m] <;> rfl)
    ·exact qa 1 ((19, B false) :: _) rfl <| qf 20 4 4 rfl <| qc 21 0 rfl rfl rfl <| qa 2 ((23, B _) :: (22, B _) :: _) rfl <| lb 8 rfl (by rw [df m] <;> rfl)
   refine xm_next <| cB rfl (fun a6 => ?_) (fun a6 => ?_)
   ·exact sr <| la 1 ((2, B false) :: _) rfl <| nn <| cm_ret <| xm_thenR <| xm_inR <| xm_thenR <| xm_lret <| xm_inR <| xm_lret <| xr [] ()
   ·refine sk <| cm_region <| la 1 ((24, I _) :: _) rfl <| vf 25 4 4 rfl <| vc 26 0 rfl rfl rfl <| lm_ck (fun a7 => ?_)
    refine va 27 a7 rfl rfl <| la 1 ((3, I _) :: _) rfl <| lm_nil <| xm_inN <| xm_next <| cm_region <| lm_ck (fun a8 => ?_)
    exact va 28 a8 rfl rfl <| la 1 ((12, I _) :: _) rfl <| lm_nil <| xn () []
  ·exact cm_exit <| xm_thenE <| xm_lexit <| xm_here <| xn () []
 intro l a2
 exact sr <| la 2 ((30, .pointer (some ⟨_, _, _⟩)) :: (29, I _) :: _) rfl <| v_ 31 (fun _ _ => op_nilCheck rfl) <| vf 32 0 0 rfl <| vf 33 5 5 rfl <| v_ 34 (fun _ c1 => oL (c1.ocell (j.at_ 5 (u := I _) rfl))) <| la 2 ((2, B _) :: (35, B _) :: _) rfl <| nn <| cm_ret <| xr [] ()
/-- (*audit.invoice).charges$1 -/
def m_audit_invoice_charges_1 (_N : Nat) (p0 : ApiItem) (q0 : Int) : Option (Bool) :=
 some (((decide (p0.Kind = 2)) && (decide (p0.Ref = q0))))
set_option maxRecDepth 20000 in
theorem m_audit_invoice_charges_1_ok (N : Nat) (w0 : World) (p0 : ApiItem) (q0 : Int) (a : Nat) (b : Blk w0 a 3 [I q0]) (r : Bool) (hr : m_audit_invoice_charges_1 N p0 q0 = some r) :
  Ret Tryz.prog 123 [.agg #[I p0.Kind, I p0.Ref, I p0.Count, I p0.Price, I p0.Amount], .pointer (some ⟨a, 0, none⟩)] w0 VB H0 r := by
 refine calls_v (n := 13) r hr Tryz.func123 ?_
 unfold m_audit_invoice_charges_1
 refine sr <| bx 2 [I _, I _, I _, I _, I _] rfl fun b5 => la 1 ((3, B false) :: _) rfl <| nn <| cm_seq <| cm_cutE [(3, B ((decide (p0.Kind = 2)) && (decide (p0.Ref = q0))))] ?_ ?_
 ·refine qf 4 0 0 rfl <| qc 5 0 rfl rfl rfl <| qd 6 (fun _ _ => op_eql rfl rfl) (fun h6 => ?_) (fun h6 => ?_)
  ·exact qa 1 ((7, B true) :: _) rfl <| qf 8 1 1 rfl <| qc 9 0 rfl rfl rfl <| q_ 10 (fun _ c1 => oL (c1.ocell (b.at_ 0 (u := I _) rfl))) <| qa 3 ((3, B _) :: (12, B _) :: (11, B _) :: _) rfl <| lb 10 rfl (by rw [dt h6] <;> rfl)
  ·exact qa 7 ((3, B false) :: (12, B false) :: uz 11 4 ((7, B false) :: _)) rfl <| lb 10 rfl (by rw [df h6] <;> rfl)
 exact xm_next <| cm_ret <| xr [] ()
/-- slices.IndexFunc -/
def m_slices_IndexFunc_audit_invoice_charges_1 (N : Nat) (p0 : (List ApiItem)) (p1c0 : Int) : Option (Int) :=
 (andThen
  (loopM (fun (a : Int) =>
   (if a < (List.length p0 : Int) then
    ck (0 ≤ a ∧ a < (List.length p0 : Int)) (
     Option.bind (m_audit_invoice_charges_1 N (ix p0 a) p1c0) fun b => (if b = true then
      some (.done (.done (a)))
     else
      ck (I64 (a + 1)) (
       some (.next (a + 1)))))
   else
    some (.done (.next ())))) N 0)
 fun (_s29 : Unit) =>
  some ((-1 : Int)))
set_option maxRecDepth 20000 in
theorem m_slices_IndexFunc_audit_invoice_charges_1_ok (N : Nat) (w0 : World) (p0 : (List ApiItem)) (p1c0 : Int) (b : Ad) (d e a : Nat) (f : RdE w0 5 encApiItem b p0) (g : SW b d e (List.length p0)) (j : Blk w0 a 3 [I p1c0]) (r : Int) (hr : m_slices_IndexFunc_audit_invoice_charges_1 N p0 p1c0 = some r) :
  Ret Tryz.prog 121 [S b d e, .func (.func 123) #[] #[.pointer (some ⟨a, 0, none⟩)]] w0 VI H0 r := by
 refine calls_v (n := 19) r hr Tryz.func121 ?_
 unfold m_slices_IndexFunc_audit_invoice_charges_1
 refine sr <| la 1 ((4, I _) :: _) rfl <| nn <| cm_join (σ := Unit) (ξ := Unit) (fun l m => []) (fun l m => []) ?_ ?_
 ·refine sr <| la 1 ((6, S _ _ _) :: _) rfl <| vn 7 g rfl <| la 1 ((8, I _) :: _) rfl <| nn <| cm_block <| cm_loop (σ := Int) (ξ := Unit) (fun i o => [(0, S b d e), (1, .func (.func 123) #[] #[.pointer (some ⟨a, 0, none⟩)]), (7, I (List.length p0 : Int)), (8, I i)]) (fun i o => []) () ?_ ?_ ?_
  ·exact sq
  ·exact sh []
  intro i o
  refine sr <| la 1 ((9, B _) :: _) rfl <| nn <| cm_seq <| cc rfl (fun t => ?_) (fun t => ?_)
  ·refine sk <| cm_seq <| cm_block <| sr <| la 2 ((5, I _) :: (10, I _) :: _) rfl <| nn <| sr <| la 3 ((13, I _) :: (12, S _ _ _) :: (11, .func _ _ _) :: _) rfl <| lm_ck (fun q => ?_)
   refine vi 14 5 f g q rfl rfl <| vr 15 f q rfl <| lm_call 16 (V := VB) (HR := H0) (by kernel_rfl) (fun w1 => op_callv rfl (by kernel_rfl)) (fun r1 hr1 w1 c1 => m_audit_invoice_charges_1_ok N w1 (ix p0 i) p1c0 a (c1.oblk j) r1 hr1) fun y z => nn <| cB rfl (fun v => ?_) (fun v => ?_)
   ·exact sr <| la 2 ((4, I _) :: (17, I _) :: _) rfl <| nn <| cm_ret <| xm_inR <| xm_thenR <| xm_lret <| xm_inR <| xm_lret <| xr [] ()
   ·refine cm_skip <| xm_inN <| xm_next <| cm_region <| lm_ck (fun x => ?_)
    exact va 18 x rfl rfl <| la 1 ((8, I _) :: _) rfl <| lm_nil <| xn () []
  ·exact cm_exit <| xm_thenE <| xm_lexit <| xm_here <| xm_lnext () sub_nil (sh [])
 intro l m
 exact sr <| la 1 ((4, I _) :: _) rfl <| nn <| cm_ret <| xr [] ()
/-- (*audit.invoice).charges -/
def m_audit_invoice_charges (N : Nat) (p0 : AuditInvoice) (p1 : Int) : Option (Int) :=
 Option.bind (m_slices_IndexFunc_audit_invoice_charges_1 N p0.Bill.Items p1) fun r6 => some (r6)
set_option maxRecDepth 20000 in
theorem m_audit_invoice_charges_ok (N : Nat) (w0 : World) (p0 : AuditInvoice) (p1 : Int) (e : Nat) (a : Ad) (b d : Nat) (i : Ad) (j l : Nat) (m : Ad) (o q : Nat) (t : Ad) (v x : Nat) (y : Ad) (z C : Nat) (G : Ad) (J K : Nat) (L : Ad) (M O : Nat) (Q : Ad) (U V : Nat) (f_p09 : Value) (X : Blk w0 e 74 [I p0.Bill.ID, I p0.Bill.Household, I p0.Bill.When.From, I p0.Bill.When.To, S a b d, I p0.Bill.Total, S i j l, S m o q, S t v x, S y z C, S G J K, I p0.account_.Gap, S L M O, S Q U V, f_p09]) (f : RdE w0 5 encApiItem a p0.Bill.Items) (g : SW a b d (List.length p0.Bill.Items)) (r : Int) (hr : m_audit_invoice_charges N p0 p1 = some r) :
  Ret Tryz.prog 71 [.pointer (some ⟨e, 0, none⟩), I p1] w0 VI H0 r := by
 refine calls_v (n := 12) r hr Tryz.func71 ?_
 unfold m_audit_invoice_charges
 exact sr <| bx 3 [I _] rfl fun b5 => la 1 ((4, I _) :: _) rfl <| nn <| sr <| la 1 ((5, .pointer (some ⟨_, _, _⟩)) :: _) rfl <| v_ 6 (fun _ _ => op_nilCheck rfl) <| vf 7 0 0 rfl <| vf 8 4 4 rfl <| v_ 9 (fun _ c1 => oL (c1.ocell (X.at_ 4 (u := S _ _ _) rfl))) <| v_ 10 (fun _ _ => op_makeFuncC [.pointer (some ⟨_, _, _⟩)] rfl) <| lc 11 (fun r1 hr1 w1 c1 => m_slices_IndexFunc_audit_invoice_charges_1_ok N w1 p0.Bill.Items p1 a b d b5 (f.old c1) g (c1.blk 0 rfl) r1 hr1) fun r6 u7 => la 1 ((4, I _) :: _) rfl <| nn <| cm_ret <| xr [] ()
/-- (*audit.invoice).credited -/
def m_audit_invoice_credited (N : Nat) (p0 : AuditInvoice) (p1 : Int) : Option (Bool) :=
 (andThen
  (loopM (fun (a : Int × Int) =>
   (if a.2 < (List.length p0.Bill.Items : Int) then
    (andThen
     (ck (0 ≤ a.2 ∧ a.2 < (List.length p0.Bill.Items : Int)) (
      (if ((decide ((ix p0.Bill.Items a.2).Ref = p1)) && (decide ((ix p0.Bill.Items a.2).Kind ≠ 1))) = true then
       ck (I64 (a.1 + (min (max ((ix p0.Bill.Items a.2).Amount) (-1000000000001 : Int)) (1000000000001 : Int)))) (
        some (.next (a.1 + (min (max ((ix p0.Bill.Items a.2).Amount) (-1000000000001 : Int)) (1000000000001 : Int)))))
      else
       some (.next a.1))))
    fun (b : Int) =>
     ck (I64 (a.2 + 1)) (
      some (.next (b, (a.2 + 1)))))
   else
    some (.done (.next a.1)))) N ((0 : Int), (0 : Int)))
 fun (d : Int) =>
  some ((decide (d = 0))))
set_option maxRecDepth 20000 in
theorem m_audit_invoice_credited_ok (N : Nat) (w0 : World) (p0 : AuditInvoice) (p1 : Int) (i : Nat) (a : Ad) (b d : Nat) (o : Ad) (q t : Nat) (x : Ad) (y z : Nat) (C : Ad) (G J : Nat) (K : Ad) (L M : Nat) (O : Ad) (Q U : Nat) (V : Ad) (X Y : Nat) (Z : Ad) (a0 a1 : Nat) (f_p09 : Value) (a2 : Blk w0 i 74 [I p0.Bill.ID, I p0.Bill.Household, I p0.Bill.When.From, I p0.Bill.When.To, S a b d, I p0.Bill.Total, S o q t, S x y z, S C G J, S K L M, S O Q U, I p0.account_.Gap, S V X Y, S Z a0 a1, f_p09]) (f : RdE w0 5 encApiItem a p0.Bill.Items) (g : SW a b d (List.length p0.Bill.Items)) (r : Bool) (hr : m_audit_invoice_credited N p0 p1 = some r) :
  Ret Tryz.prog 74 [.pointer (some ⟨i, 0, none⟩), I p1] w0 VB H0 r := by
 refine calls_v (n := 36) r hr Tryz.func74 ?_
 unfold m_audit_invoice_credited
 refine sr <| la 1 ((4, B false) :: _) rfl <| nn <| sr <| la 1 ((5, I _) :: _) rfl <| nn <| cm_join (σ := Int) (ξ := Unit) (fun j a3 => [(5, I j)]) (fun j a3 => []) ?_ ?_
 ·refine sr <| la 1 ((8, .pointer (some ⟨_, _, _⟩)) :: _) rfl <| v_ 9 (fun _ _ => op_nilCheck rfl) <| vf 10 0 0 rfl <| vf 11 4 4 rfl <| v_ 12 (fun _ c1 => oL (c1.ocell (a2.at_ 4 (u := S _ _ _) rfl))) <| vn 13 g rfl <| la 1 ((14, I _) :: _) rfl <| nn <| cm_block <| cm_loop (σ := Int × Int) (ξ := Unit) (fun e a4 => [(1, I p1), (5, I e.1), (12, S a b d), (13, I (List.length p0.Bill.Items : Int)), (14, I e.2)]) (fun e a4 => []) () ?_ ?_ ?_
  ·exact sq
  ·exact sh []
  intro e a4
  refine sr <| la 1 ((15, B _) :: _) rfl <| nn <| cm_seq <| cc rfl (fun aa => ?_) (fun aa => ?_)
  ·refine sk <| cm_join (σ := Int) (ξ := Unit) (fun l a5 => [(1, I p1), (5, I l), (12, S a b d), (13, I (List.length p0.Bill.Items : Int)), (14, I e.2)]) (fun l a5 => []) ?_ ?_
   ·refine cm_block <| sr <| lm_ck (fun a6 => ?_)
    refine vi 16 5 f g a6 rfl rfl <| vr 17 f a6 rfl <| al 7 [I 0, I 0, I 0, I 0, I 0] (v := .agg #[I 0, I 0, I 0, I 0, I 0]) rfl fun ab => sA 0 [I _, I _, I _, I _, I _] [_, _, _, _, _] (H' := [blkE _ _ [_, _, _, _, _]]) rfl rfl rfl rfl rfl rfl <| nn <| cm_seq <| cm_cutE [(26, B ((decide ((ix p0.Bill.Items e.2).Ref = p1)) && (decide ((ix p0.Bill.Items e.2).Kind ≠ 1))))] ?_ ?_
    ·refine qf 18 1 1 rfl <| qc 19 0 rfl rfl rfl <| qa 1 ((20, I _) :: _) rfl <| qd 21 (fun _ _ => op_eql rfl rfl) (fun m => ?_) (fun m => ?_)
     ·exact qa 1 ((22, B true) :: _) rfl <| qf 23 0 0 rfl <| qc 24 0 rfl rfl rfl <| qa 2 ((26, B _) :: (25, B _) :: _) rfl <| lb 9 rfl (by rw [dt m] <;> rfl)
     ·exact qa 5 ((26, B false) :: uz 25 3 ((22, B false) :: _)) rfl <| lb 9 rfl (by rw [df m] <;> rfl)
    refine xm_next <| cB rfl (fun a7 => ?_) (fun a7 => ?_)
    ·refine cm_region <| la 1 ((27, I _) :: _) rfl <| vf 28 4 4 rfl <| vc 29 0 rfl rfl rfl <| v_ 30 (fun _ _ => op_max rfl rfl) <| v_ 31 (fun _ _ => op_min rfl rfl) <| lm_ck (fun a8 => ?_)
     exact va 32 a8 rfl rfl <| la 1 ((5, I _) :: _) rfl <| lm_nil <| xm_inN <| xn () []
    ·exact cm_skip <| xm_inN <| xn () []
   intro l a5
   refine cm_region <| lm_ck (fun a9 => ?_)
   exact va 33 a9 rfl rfl <| la 1 ((14, I _) :: _) rfl <| lm_nil <| xn () []
  ·exact cm_exit <| xm_thenE <| xm_lexit <| xm_here <| xn () []
 intro j a3
 exact sr <| la 3 ((4, B _) :: (35, B _) :: (34, I _) :: _) rfl <| nn <| cm_ret <| xr [] ()
end Go.Proofs.YtbnimhmoffchdaaGreatDoor
