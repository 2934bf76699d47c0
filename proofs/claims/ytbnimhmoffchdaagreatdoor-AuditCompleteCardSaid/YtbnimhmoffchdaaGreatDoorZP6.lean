/- Models of functions, and that the code follows them. Written by deco.py. -/
import Derived.Test.YtbnimhmoffchdaaGreatDoorZP5
namespace Go.Proofs.YtbnimhmoffchdaaGreatDoor
open Go.RowKit
set_option linter.unusedSectionVars false
variable [JF]

structure ApiFinding where
 Kind : Int
 A : Int
 B : Int
deriving DecidableEq, Inhabited
def encApiFinding (x : ApiFinding) : List Value := [.int .i64 x.Kind, .int .i64 x.A, .int .i64 x.B]
def valApiFinding (x : ApiFinding) : Value := .agg #[.int .i64 x.Kind, .int .i64 x.A, .int .i64 x.B]
theorem encApiFinding_len (x : ApiFinding) : (encApiFinding x).length = 3 := rfl
theorem encApiFinding_one (x : ApiFinding) : (encApiFinding x).all Value.oneCell' = true := rfl
/-- audit.Bills$1 -/
def m_audit_Bills_1 (_N : Nat) (p0 : ApiBill) : Option (Bool) :=
 some ((decide (512 < (List.length p0.Items : Int))))
set_option maxRecDepth 20000 in
theorem m_audit_Bills_1_ok (N : Nat) (w0 : World) (p0 : ApiBill) (a : Ad) (b d : Nat) (e : SW a b d (List.length p0.Items)) (r : Bool) (hr : m_audit_Bills_1 N p0 = some r) :
  Ret Tryz.prog 19 [.agg #[I p0.ID, I p0.Household, I p0.When.From, I p0.When.To, S a b d, I p0.Total]] w0 VB H0 r := by
 refine calls_v (n := 7) r hr Tryz.func19 ?_
 unfold m_audit_Bills_1
 exact sr <| bx 1 [I _, I _, I _, I _, S _ _ _, I _] rfl fun b5 => la 1 ((2, B false) :: _) rfl <| nn <| sr <| vf 3 4 4 rfl <| vc 4 0 rfl rfl rfl <| vn 5 e rfl <| la 2 ((2, B _) :: (6, B _) :: _) rfl <| nn <| cm_ret <| xr [] ()
/-- slices.IndexFunc -/
def m_slices_IndexFunc_audit_Bills_1 (N : Nat) (p0 : (List ApiBill)) : Option (Int) :=
 (andThen
  (loopM (fun (a : Int) =>
   (if a < (List.length p0 : Int) then
    ck (0 ≤ a ∧ a < (List.length p0 : Int)) (
     Option.bind (m_audit_Bills_1 N (ix p0 a)) fun b => (if b = true then
      some (.done (.done (a)))
     else
      ck (I64 (a + 1)) (
       some (.next (a + 1)))))
   else
    some (.done (.next ())))) N 0)
 fun (_s29 : Unit) =>
  some ((-1 : Int)))
set_option maxRecDepth 20000 in
theorem m_slices_IndexFunc_audit_Bills_1_ok (N : Nat) (w0 : World) (p0 : (List ApiBill)) (e : Ad) (f g : Nat) (a : Int → Hdr) (j : RdI w0 6 (fun (i : Int) (x : ApiBill) => encApiBill x (a i)) e p0) (l : SW e f g (List.length p0)) (m : ∀ i : Int, 0 ≤ i ∧ i < (List.length p0 : Int) → RdE w0 5 encApiItem (a i).1 (ix p0 i).Items ∧ SW (a i).1 (a i).2.1 (a i).2.2 (List.length (ix p0 i).Items)) (r : Int) (hr : m_slices_IndexFunc_audit_Bills_1 N p0 = some r) :
  Ret Tryz.prog 53 [S e f g, .func (.func 19) #[] #[]] w0 VI H0 r := by
 refine calls_v (n := 19) r hr Tryz.func53 ?_
 unfold m_slices_IndexFunc_audit_Bills_1
 refine sr <| la 1 ((4, I _) :: _) rfl <| nn <| cm_join (σ := Unit) (ξ := Unit) (fun o q => []) (fun o q => []) ?_ ?_
 ·refine sr <| la 1 ((6, S _ _ _) :: _) rfl <| vn 7 l rfl <| la 1 ((8, I _) :: _) rfl <| nn <| cm_block <| cm_loop (σ := Int) (ξ := Unit) (fun b t => [(0, S e f g), (1, .func (.func 19) #[] #[]), (7, I (List.length p0 : Int)), (8, I b)]) (fun b t => []) () ?_ ?_ ?_
  ·exact sq
  ·exact sh []
  intro b t
  refine sr <| la 1 ((9, B _) :: _) rfl <| nn <| cm_seq <| cc rfl (fun v => ?_) (fun v => ?_)
  ·refine sk <| cm_seq <| cm_block <| sr <| la 2 ((5, I _) :: (10, I _) :: _) rfl <| nn <| sr <| la 3 ((13, I _) :: (12, S _ _ _) :: (11, .func _ _ _) :: _) rfl <| lm_ck (fun d => ?_)
   refine v_ 14 (fun _ c1 => oI 6 rfl rfl ((j.old c1).addr d.1 d.2) l.2.2 d) <| v_ 15 (fun _ c1 => oR [I ((ix p0 b).ID), I ((ix p0 b).Household), I ((ix p0 b).When.From), I ((ix p0 b).When.To), S ((a b).1) ((a b).2.1) ((a b).2.2), I ((ix p0 b).Total)] ((j.old c1).row d.1 d.2)) <| lm_call 16 (V := VB) (HR := H0) (by kernel_rfl) (fun w1 => op_callv rfl (by kernel_rfl)) (fun r1 hr1 w1 c1 => m_audit_Bills_1_ok N w1 (ix p0 b) ((a b).1) ((a b).2.1) ((a b).2.2) (m b d).2 r1 hr1) fun C G => nn <| cB rfl (fun y => ?_) (fun y => ?_)
   ·exact sr <| la 2 ((4, I _) :: (17, I _) :: _) rfl <| nn <| cm_ret <| xm_inR <| xm_thenR <| xm_lret <| xm_inR <| xm_lret <| xr [] ()
   ·refine cm_skip <| xm_inN <| xm_next <| cm_region <| lm_ck (fun z => ?_)
    exact va 18 z rfl rfl <| la 1 ((8, I _) :: _) rfl <| lm_nil <| xn () []
  ·exact cm_exit <| xm_thenE <| xm_lexit <| xm_here <| xm_lnext () sub_nil (sh [])
 intro o q
 exact sr <| la 1 ((4, I _) :: _) rfl <| nn <| cm_ret <| xr [] ()
/-- slices.ContainsFunc -/
def m_slices_ContainsFunc_audit_Bills_1 (N : Nat) (p0 : (List ApiBill)) : Option (Bool) :=
 Option.bind (m_slices_IndexFunc_audit_Bills_1 N p0) fun r5 => some ((decide (0 ≤ r5)))
set_option maxRecDepth 20000 in
theorem m_slices_ContainsFunc_audit_Bills_1_ok (N : Nat) (w0 : World) (p0 : (List ApiBill)) (b : Ad) (e f : Nat) (a : Int → Hdr) (g : RdI w0 6 (fun (i : Int) (x : ApiBill) => encApiBill x (a i)) b p0) (j : SW b e f (List.length p0)) (d : ∀ i : Int, 0 ≤ i ∧ i < (List.length p0 : Int) → RdE w0 5 encApiItem (a i).1 (ix p0 i).Items ∧ SW (a i).1 (a i).2.1 (a i).2.2 (List.length (ix p0 i).Items)) (r : Bool) (hr : m_slices_ContainsFunc_audit_Bills_1 N p0 = some r) :
  Ret Tryz.prog 18 [S b e f, .func (.func 19) #[] #[]] w0 VB H0 r := by
 refine calls_v (n := 9) r hr Tryz.func18 ?_
 unfold m_slices_ContainsFunc_audit_Bills_1
 exact sr <| la 1 ((4, B false) :: _) rfl <| nn <| sr <| la 2 ((6, .func _ _ _) :: (5, S _ _ _) :: _) rfl <| lc 7 (fun r1 hr1 w1 c1 => m_slices_IndexFunc_audit_Bills_1_ok N w1 p0 b e f a (g.old c1) j (fun i hi => ⟨(d i hi).1.old c1, (d i hi).2⟩) r1 hr1) fun r5 u6 => la 2 ((4, B _) :: (8, B _) :: _) rfl <| nn <| cm_ret <| xr [] ()
/-- audit.collector -/
def m_audit_collector (_N : Nat) (p0 : (List ApiFinding)) : Option ((List ApiFinding)) :=
 some (p0)
set_option maxRecDepth 20000 in
theorem m_audit_collector_ok (N : Nat) (w0 w : World) (F : List HE) (p0 : (List ApiFinding)) (a : Nat) (b : Ad) (d e : Nat)  (hw : Hs w0 ([blkE a 43 [S b d e], ownE 64 3 encApiFinding b d e p0] ++ [packE w0.heap.size F]) w) (r : (List ApiFinding)) (hr : m_audit_collector N p0 = some r) :
  Calls Tryz.prog 21 [.pointer (some ⟨a, 0, none⟩)].toArray w fun x w1 => ∃ u, x = .returned ((fun (_r : (List ApiFinding)) (u : Nat) => (.func (.func 58) #[] #[.pointer (some ⟨u, 0, none⟩)] : Value)) r u) ∧ Hs w0 ((fun (r : (List ApiFinding)) (u : Nat) => [blkE u 70 [.pointer (some ⟨a, 0, none⟩)], blkE a 43 [S b d e], ownE 64 3 encApiFinding b d e r]) r u ++ [packE w0.heap.size F]) w1 := by
 refine calls_cmH (n := 4) (R := fun r x w1 => ∃ u, x = .returned ((fun (_r : (List ApiFinding)) (u : Nat) => (.func (.func 58) #[] #[.pointer (some ⟨u, 0, none⟩)] : Value)) r u) ∧ Hs w0 ((fun (r : (List ApiFinding)) (u : Nat) => [blkE u 70 [.pointer (some ⟨a, 0, none⟩)], blkE a 43 [S b d e], ownE 64 3 encApiFinding b d e r]) r u ++ [packE w0.heap.size F]) w1) Tryz.func21 rfl rfl (Nat.le_of_ble_eq_true rfl) ?_ hw r hr
 unfold m_audit_collector
 exact sr <| bx 1 [.pointer (some ⟨_, _, _⟩)] rfl fun b6 => la 1 ((2, .nilFunc) :: _) rfl <| nn <| sr <| v_ 3 (fun _ _ => op_makeFuncC [.pointer (some ⟨_, _, _⟩)] rfl) <| la 1 ((2, .func _ _ _) :: _) rfl <| nn <| cm_ret <| xr [0, 1, 2, 3] b6
/-- audit.collector$1 -/
def m_audit_collector_1 (_N : Nat) (p0 : Int) (p1 : Int) (p2 : Int) (_q0 : Unit) (q0p1 : (List ApiFinding)) : Option (Unit) :=
 ck ((List.length q0p1 + List.length ([(ApiFinding.mk p0 p1 p2)])) * 24 ≤ 140737488355328) (
  some (()))
set_option maxRecDepth 20000 in
theorem m_audit_collector_1_ok (N : Nat) (w0 w : World) (F : List HE) (p0 p1 p2 : Int) (q0 : Unit) (q0p1 : (List ApiFinding)) (e a : Nat) (i : Ad) (j l : Nat)  (hw : Hs w0 ([blkE e 70 [.pointer (some ⟨a, 0, none⟩)], blkE a 43 [S i j l], ownE 64 3 encApiFinding i j l q0p1] ++ [packE w0.heap.size F]) w) (r : Unit) (hr : m_audit_collector_1 N p0 p1 p2 q0 q0p1 = some r) :
  Calls Tryz.prog 58 [I p0, I p1, I p2, .pointer (some ⟨e, 0, none⟩)].toArray w fun x w1 => ∃ u, x = .returned ((fun (_r : Unit) (_u : Hdr) => (.tuple #[] : Value)) r u) ∧ Hs w0 ((fun (_r : Unit) (u : Hdr) => [blkE e 70 [.pointer (some ⟨a, 0, none⟩)], blkE a 43 [S u.1 u.2.1 u.2.2], ownE 64 3 encApiFinding u.1 u.2.1 u.2.2 (q0p1 ++ ([(ApiFinding.mk p0 p1 p2)]))]) r u ++ [packE w0.heap.size F]) w1 := by
 refine calls_cmH (n := 18) (R := fun r x w1 => ∃ u, x = .returned ((fun (_r : Unit) (_u : Hdr) => (.tuple #[] : Value)) r u) ∧ Hs w0 ((fun (_r : Unit) (u : Hdr) => [blkE e 70 [.pointer (some ⟨a, 0, none⟩)], blkE a 43 [S u.1 u.2.1 u.2.2], ownE 64 3 encApiFinding u.1 u.2.1 u.2.2 (q0p1 ++ ([(ApiFinding.mk p0 p1 p2)]))]) r u ++ [packE w0.heap.size F]) w1) Tryz.func58 rfl rfl (Nat.le_of_ble_eq_true rfl) ?_ hw r hr
 unfold m_audit_collector_1
 refine cm_ck (fun y => ?_)
 refine cm_of_then <| cm_held (ξ := Hdr) (fun b => []) (fun b => [blkE e 70 [.pointer (some ⟨a, 0, none⟩)], blkE a 43 [S b.1 b.2.1 b.2.2], ownE 64 3 encApiFinding b.1 b.2.1 b.2.2 (q0p1 ++ ([(ApiFinding.mk p0 p1 p2)])), packE w0.heap.size F]) [blkE e 70 [.pointer (some ⟨a, 0, none⟩)], packE w0.heap.size F] 12 (by kernel_rfl) (by rfl) (hsub [0, 3] (by kernel_rfl) (by rfl)) ?_ ?_
 ·intro Z d
  refine wt 0 7 rfl (fun w2 c2 => oL (c2.cell 0 (u := .pointer (some ⟨_, _, _⟩)) rfl rfl)) (hs [0, 3] d) <| wt 1 8 rfl (fun w2 c2 => oL (c2.cell 0 (u := .pointer (some ⟨_, _, _⟩)) rfl rfl)) (hs [0, 3] d) <| wt 2 9 rfl (fun w2 c2 => (op_nilCheck rfl)) (hs [0, 3] d) <| wt 4 11 rfl (fun w2 c2 => (op_move (v := I _) rfl)) (hs [0, 3] d) <| wt 5 12 rfl (fun w2 c2 => (op_move (v := I _) rfl)) (hs [0, 3] d) <| wt 6 13 rfl (fun w2 c2 => (op_move (v := I _) rfl)) (hs [0, 3] d) <| wt 7 14 rfl (fun w2 c2 => (op_build (z := [I 0, I 0, I 0]) (tab := [(0, 1), (1, 1), (2, 1)]) (cs := [I _, I _, I _]) [(0, [I _]), (1, [I _]), (2, [I _])] (by kernel_rfl) (by kernel_rfl) (fillOk_cons rfl rfl rfl (fillOk_cons rfl rfl rfl (fillOk_cons rfl rfl rfl fillOk_nil))) rfl)) (hs [0, 3] d) <| wh_ready [3, 8] (by kernel_rfl) rfl ⟨?_, ?_, trivial⟩
  ·refine ws_run 10 rfl (by kernel_rfl) (op_load rfl (by kernel_rfl) (d.cell 1 (u := S _ _ _) rfl rfl)) (hs [0, 3] d) <| wh_ready [8] (by kernel_rfl) rfl ⟨?_, trivial⟩
   refine ws_sliceN 15 (el := 64) (sz := 3) (bytes := 24) (enc := encApiFinding) [(ApiFinding.mk p0 p1 p2)] rfl (by kernel_rfl) (by kernel_rfl) encApiFinding_len rfl ⟨rfl, rfl, trivial⟩ (by kernel_rfl) (by kernel_rfl) d fun C G J a0 g => ⟨(hs [1, 4] g), ?_⟩
   refine wh_strong (Hs w0 [ownE 64 3 encApiFinding C G J ([(ApiFinding.mk p0 p1 p2)]), blkE e 70 [.pointer (some ⟨a, 0, none⟩)], packE w0.heap.size F]) (fun w2 c2 => hs [1, 2] c2) <| wh_ready [9] (by kernel_rfl) rfl ⟨?_, trivial⟩
   refine ws_append 16 3 (el := 64) (sz := 3) (bytes := 24) (enc := encApiFinding) (l2 := ([(ApiFinding.mk p0 p1 p2)])) rfl (by kernel_rfl) (by kernel_rfl) encApiFinding_len encApiFinding_one rfl rfl rfl (g.ownZ 0 rfl) (g.own 0 rfl encApiFinding_len) y (by kernel_rfl) g fun K L M a1 m => ⟨(hs [0, 1, 4] m), ?_⟩
   refine wt 10 17 rfl (fun w2 c2 => (op_nilCheck rfl)) (hs [0, 1, 4] m) <| wh_ready [11] (by kernel_rfl) rfl ⟨?_, trivial⟩
   refine ws_store1 2 (v := S _ _ _) rfl (by kernel_rfl) rfl rfl (by kernel_rfl) rfl rfl (by kernel_rfl) (H' := [_, _, blkE _ _ [_], _, _]) rfl m fun a2 q => ⟨(hs [0, 1, 4] q), ?_⟩
   exact wh_done (K, L, M) (by kernel_rfl) sub_nil (hs [1, 2, 3, 4] q)
  ·refine ws_sliceN 15 (el := 64) (sz := 3) (bytes := 24) (enc := encApiFinding) [(ApiFinding.mk p0 p1 p2)] rfl (by kernel_rfl) (by kernel_rfl) encApiFinding_len rfl ⟨rfl, rfl, trivial⟩ (by kernel_rfl) (by kernel_rfl) d fun O Q U a3 f => ⟨(hs [1, 4] f), ?_⟩
   refine wh_strong (Hs w0 [ownE 64 3 encApiFinding O Q U ([(ApiFinding.mk p0 p1 p2)]), blkE e 70 [.pointer (some ⟨a, 0, none⟩)], packE w0.heap.size F]) (fun w2 c2 => hs [1, 2] c2) <| wh_ready [3] (by kernel_rfl) rfl ⟨?_, trivial⟩
   refine ws_run 10 rfl (by kernel_rfl) (op_load rfl (by kernel_rfl) (f.cell 2 (u := S _ _ _) rfl rfl)) (hs [0, 1, 4] f) <| wh_ready [9] (by kernel_rfl) rfl ⟨?_, trivial⟩
   refine ws_append 16 3 (el := 64) (sz := 3) (bytes := 24) (enc := encApiFinding) (l2 := ([(ApiFinding.mk p0 p1 p2)])) rfl (by kernel_rfl) (by kernel_rfl) encApiFinding_len encApiFinding_one rfl rfl rfl (f.ownZ 0 rfl) (f.own 0 rfl encApiFinding_len) y (by kernel_rfl) f fun V X Y a4 o => ⟨(hs [0, 1, 4] o), ?_⟩
   refine wt 10 17 rfl (fun w2 c2 => (op_nilCheck rfl)) (hs [0, 1, 4] o) <| wh_ready [11] (by kernel_rfl) rfl ⟨?_, trivial⟩
   refine ws_store1 2 (v := S _ _ _) rfl (by kernel_rfl) rfl rfl (by kernel_rfl) rfl rfl (by kernel_rfl) (H' := [_, _, blkE _ _ [_], _, _]) rfl o fun a5 t => ⟨(hs [0, 1, 4] t), ?_⟩
   exact wh_done (V, X, Y) (by kernel_rfl) sub_nil (hs [1, 2, 3, 4] t)
 intro b
 exact xm_of_then <| xm_normR <| xm_ret rfl  fun w1 c1 => ⟨(b.1, b.2.1, b.2.2), rfl, hs [0, 1, 2, 3] c1⟩
/-- (*audit.invoice).items$1 -/
def m_audit_invoice_items_1 (N : Nat) (p0 : ApiItem) (_q0 : Unit) (q0p1 : AuditInvoice) : Option (Bool) :=
 Option.bind (m_slices_Contains N q0p1.Bill.Items p0) fun r6 => some ((!r6))
set_option maxRecDepth 20000 in
theorem m_audit_invoice_items_1_ok (N : Nat) (w0 : World) (p0 : ApiItem) (q0 : Unit) (q0p1 : AuditInvoice) (Y e : Nat) (a : Ad) (b d : Nat) (i : Ad) (j l : Nat) (m : Ad) (o q : Nat) (t : Ad) (v x : Nat) (y : Ad) (z C : Nat) (G : Ad) (J K : Nat) (L : Ad) (M O : Nat) (Q : Ad) (U V : Nat) (f_q0p19 : Value) (Z : Blk w0 Y 72 [.pointer (some ⟨e, 0, none⟩)]) (X : Blk w0 e 74 [I q0p1.Bill.ID, I q0p1.Bill.Household, I q0p1.Bill.When.From, I q0p1.Bill.When.To, S a b d, I q0p1.Bill.Total, S i j l, S m o q, S t v x, S y z C, S G J K, I q0p1.account_.Gap, S L M O, S Q U V, f_q0p19]) (f : RdE w0 5 encApiItem a q0p1.Bill.Items) (g : SW a b d (List.length q0p1.Bill.Items)) (r : Bool) (hr : m_audit_invoice_items_1 N p0 q0 q0p1 = some r) :
  Ret Tryz.prog 69 [.agg #[I p0.Kind, I p0.Ref, I p0.Count, I p0.Price, I p0.Amount], .pointer (some ⟨Y, 0, none⟩)] w0 VB H0 r := by
 refine calls_v (n := 12) r hr Tryz.func69 ?_
 unfold m_audit_invoice_items_1
 refine sr <| bx 2 [I _, I _, I _, I _, I _] rfl fun b5 => la 1 ((3, B false) :: _) rfl <| nn <| cm_seq <| cm_bind fun r6 h7 => cm_drawn [(3, B (!r6))] (by kernel_rfl) (by kernel_rfl) ?_ ?_
 ·exact q_ 4 (fun _ c1 => oL (c1.ocell (Z.at_ 0 (u := .pointer (some ⟨_, _, _⟩)) rfl))) <| q_ 5 (fun _ _ => op_nilCheck rfl) <| qf 6 0 0 rfl <| qf 7 4 4 rfl <| q_ 8 (fun _ c1 => oL (c1.ocell (X.at_ 4 (u := S _ _ _) rfl))) <| qR 9 [I _, I _, I _, I _, I _] 0 rfl rfl rfl <| qk 10 (fun w1 c1 => m_slices_Contains_ok N w1 q0p1.Bill.Items p0 a b d (f.old c1) g r6 h7) <| qa 2 ((3, B _) :: (11, B _) :: _) rfl <| lq 9
 exact xm_next <| cm_ret <| xr [] ()
/-- slices.IndexFunc -/
def m_slices_IndexFunc_audit_invoice_items_1 (N : Nat) (p0 : (List ApiItem)) (_p1c0 : Unit) (p1c0p1 : AuditInvoice) : Option (Int) :=
 (andThen
  (loopM (fun (a : Int) =>
   (if a < (List.length p0 : Int) then
    ck (0 ≤ a ∧ a < (List.length p0 : Int)) (
     Option.bind (m_audit_invoice_items_1 N (ix p0 a) () (AuditInvoice.mk p1c0p1.Bill p1c0p1.account_ p1c0p1.base_ p1c0p1.counted_ ())) fun b => (if b = true then
      some (.done (.done (a)))
     else
      ck (I64 (a + 1)) (
       some (.next (a + 1)))))
   else
    some (.done (.next ())))) N 0)
 fun (_s29 : Unit) =>
  some ((-1 : Int)))
set_option maxRecDepth 20000 in
theorem m_slices_IndexFunc_audit_invoice_items_1_ok (N : Nat) (w0 : World) (p0 : (List ApiItem)) (p1c0 : Unit) (p1c0p1 : AuditInvoice) (X : Ad) (a1 a2 : Nat) (f e : Nat) (a : Ad) (b d : Nat) (g : Ad) (i j : Nat) (l : Ad) (m o : Nat) (q : Ad) (t v : Nat) (x : Ad) (y z : Nat) (C : Ad) (G J : Nat) (K : Ad) (L M : Nat) (O : Ad) (Q U : Nat) (f_p1c0p19 : Value) (a3 : RdE w0 5 encApiItem X p0) (a4 : SW X a1 a2 (List.length p0)) (a6 : Blk w0 f 72 [.pointer (some ⟨e, 0, none⟩)]) (a0 : Blk w0 e 74 [I p1c0p1.Bill.ID, I p1c0p1.Bill.Household, I p1c0p1.Bill.When.From, I p1c0p1.Bill.When.To, S a b d, I p1c0p1.Bill.Total, S g i j, S l m o, S q t v, S x y z, S C G J, I p1c0p1.account_.Gap, S K L M, S O Q U, f_p1c0p19]) (Y : RdE w0 5 encApiItem a p1c0p1.Bill.Items) (Z : SW a b d (List.length p1c0p1.Bill.Items)) (r : Int) (hr : m_slices_IndexFunc_audit_invoice_items_1 N p0 p1c0 p1c0p1 = some r) :
  Ret Tryz.prog 121 [S X a1 a2, .func (.func 69) #[] #[.pointer (some ⟨f, 0, none⟩)]] w0 VI H0 r := by
 refine calls_v (n := 19) r hr Tryz.func121 ?_
 unfold m_slices_IndexFunc_audit_invoice_items_1
 refine sr <| la 1 ((4, I _) :: _) rfl <| nn <| cm_join (σ := Unit) (ξ := Unit) (fun a7 a8 => []) (fun a7 a8 => []) ?_ ?_
 ·refine sr <| la 1 ((6, S _ _ _) :: _) rfl <| vn 7 a4 rfl <| la 1 ((8, I _) :: _) rfl <| nn <| cm_block <| cm_loop (σ := Int) (ξ := Unit) (fun a5 a9 => [(0, S X a1 a2), (1, .func (.func 69) #[] #[.pointer (some ⟨f, 0, none⟩)]), (7, I (List.length p0 : Int)), (8, I a5)]) (fun a5 a9 => []) () ?_ ?_ ?_
  ·exact sq
  ·exact sh []
  intro a5 a9
  refine sr <| la 1 ((9, B _) :: _) rfl <| nn <| cm_seq <| cc rfl (fun ab => ?_) (fun ab => ?_)
  ·refine sk <| cm_seq <| cm_block <| sr <| la 2 ((5, I _) :: (10, I _) :: _) rfl <| nn <| sr <| la 3 ((13, I _) :: (12, S _ _ _) :: (11, .func _ _ _) :: _) rfl <| lm_ck (fun aa => ?_)
   refine vi 14 5 a3 a4 aa rfl rfl <| vr 15 a3 aa rfl <| lm_call 16 (V := VB) (HR := H0) (by kernel_rfl) (fun w1 => op_callv rfl (by kernel_rfl)) (fun r1 hr1 w1 c1 => m_audit_invoice_items_1_ok N w1 (ix p0 a5) () (AuditInvoice.mk p1c0p1.Bill p1c0p1.account_ p1c0p1.base_ p1c0p1.counted_ ()) f e a b d g i j l m o q t v x y z C G J K L M O Q U f_p1c0p19 (c1.oblk a6) (c1.oblk a0) (Y.old c1) Z r1 hr1) fun ae af => nn <| cB rfl (fun ac => ?_) (fun ac => ?_)
   ·exact sr <| la 2 ((4, I _) :: (17, I _) :: _) rfl <| nn <| cm_ret <| xm_inR <| xm_thenR <| xm_lret <| xm_inR <| xm_lret <| xr [] ()
   ·refine cm_skip <| xm_inN <| xm_next <| cm_region <| lm_ck (fun ad => ?_)
    exact va 18 ad rfl rfl <| la 1 ((8, I _) :: _) rfl <| lm_nil <| xn () []
  ·exact cm_exit <| xm_thenE <| xm_lexit <| xm_here <| xm_lnext () sub_nil (sh [])
 intro a7 a8
 exact sr <| la 1 ((4, I _) :: _) rfl <| nn <| cm_ret <| xr [] ()
/-- slices.ContainsFunc -/
def m_slices_ContainsFunc_audit_invoice_items_1 (N : Nat) (p0 : (List ApiItem)) (_p1c0 : Unit) (p1c0p1 : AuditInvoice) : Option (Bool) :=
 Option.bind (m_slices_IndexFunc_audit_invoice_items_1 N p0 () (AuditInvoice.mk p1c0p1.Bill p1c0p1.account_ p1c0p1.base_ p1c0p1.counted_ ())) fun r5 => some ((decide (0 ≤ r5)))
set_option maxRecDepth 20000 in
theorem m_slices_ContainsFunc_audit_invoice_items_1_ok (N : Nat) (w0 : World) (p0 : (List ApiItem)) (p1c0 : Unit) (p1c0p1 : AuditInvoice) (V : Ad) (a0 a1 : Nat) (U e : Nat) (a : Ad) (b d : Nat) (f : Ad) (g i : Nat) (j : Ad) (l m : Nat) (o : Ad) (q t : Nat) (v : Ad) (x y : Nat) (z : Ad) (C G : Nat) (J : Ad) (K L : Nat) (M : Ad) (O Q : Nat) (f_p1c0p19 : Value) (a3 : RdE w0 5 encApiItem V p0) (a4 : SW V a0 a1 (List.length p0)) (a2 : Blk w0 U 72 [.pointer (some ⟨e, 0, none⟩)]) (Z : Blk w0 e 74 [I p1c0p1.Bill.ID, I p1c0p1.Bill.Household, I p1c0p1.Bill.When.From, I p1c0p1.Bill.When.To, S a b d, I p1c0p1.Bill.Total, S f g i, S j l m, S o q t, S v x y, S z C G, I p1c0p1.account_.Gap, S J K L, S M O Q, f_p1c0p19]) (X : RdE w0 5 encApiItem a p1c0p1.Bill.Items) (Y : SW a b d (List.length p1c0p1.Bill.Items)) (r : Bool) (hr : m_slices_ContainsFunc_audit_invoice_items_1 N p0 p1c0 p1c0p1 = some r) :
  Ret Tryz.prog 68 [S V a0 a1, .func (.func 69) #[] #[.pointer (some ⟨U, 0, none⟩)]] w0 VB H0 r := by
 refine calls_v (n := 9) r hr Tryz.func68 ?_
 unfold m_slices_ContainsFunc_audit_invoice_items_1
 exact sr <| la 1 ((4, B false) :: _) rfl <| nn <| sr <| la 2 ((6, .func _ _ _) :: (5, S _ _ _) :: _) rfl <| lc 7 (fun r1 hr1 w1 c1 => m_slices_IndexFunc_audit_invoice_items_1_ok N w1 p0 () (AuditInvoice.mk p1c0p1.Bill p1c0p1.account_ p1c0p1.base_ p1c0p1.counted_ ()) V a0 a1 U e a b d f g i j l m o q t v x y z C G J K L M O Q f_p1c0p19 (a3.old c1) a4 (c1.oblk a2) (c1.oblk Z) (X.old c1) Y r1 hr1) fun r5 u6 => la 2 ((4, B _) :: (8, B _) :: _) rfl <| nn <| cm_ret <| xr [] ()
/-- slices.Index -/
def m_slices_Index_126 (N : Nat) (p0 : (List Int)) (p1 : Int) : Option (Int) :=
 (andThen
  (loopM (fun (a : Int) =>
   (if a < (List.length p0 : Int) then
    ck (0 ≤ a ∧ a < (List.length p0 : Int)) (
     (if p1 = (ix p0 a) then
      some (.done (.done (a)))
     else
      ck (I64 (a + 1)) (
       some (.next (a + 1)))))
   else
    some (.done (.next ())))) N 0)
 fun (_s23 : Unit) =>
  some ((-1 : Int)))
set_option maxRecDepth 20000 in
theorem m_slices_Index_126_ok (N : Nat) (w0 : World) (p0 : (List Int)) (p1 : Int) (a : Ad) (b d : Nat) (e : RdE w0 1 encI a p0) (f : SW a b d (List.length p0)) (r : Int) (hr : m_slices_Index_126 N p0 p1 = some r) :
  Ret Tryz.prog 126 [S a b d, I p1] w0 VI H0 r := by
 refine calls_v (n := 19) r hr Tryz.func126 ?_
 unfold m_slices_Index_126
 refine sr <| la 1 ((4, I _) :: _) rfl <| nn <| cm_join (σ := Unit) (ξ := Unit) (fun j l => []) (fun j l => []) ?_ ?_
 ·refine sr <| la 1 ((6, S _ _ _) :: _) rfl <| vn 7 f rfl <| la 1 ((8, I _) :: _) rfl <| nn <| cm_block <| cm_loop (σ := Int) (ξ := Unit) (fun g m => [(0, S a b d), (1, I p1), (7, I (List.length p0 : Int)), (8, I g)]) (fun g m => []) () ?_ ?_ ?_
  ·exact sq
  ·exact sh []
  intro g m
  refine sr <| la 1 ((9, B _) :: _) rfl <| nn <| cm_seq <| cc rfl (fun o => ?_) (fun o => ?_)
  ·refine sk <| cm_seq <| cm_block <| sr <| la 2 ((5, I _) :: (10, I _) :: _) rfl <| nn <| sr <| la 3 ((13, I _) :: (12, S _ _ _) :: (11, I _) :: _) rfl <| lm_ck (fun i => ?_)
   refine vi 14 1 e f i rfl rfl <| v_ 15 (fun _ c1 => oL (v := I (ix p0 g)) ((e.old c1).cell0 i.1 i.2 rfl)) <| la 1 ((16, B _) :: _) rfl <| nn <| cc rfl (fun q => ?_) (fun q => ?_)
   ·exact sr <| la 2 ((4, I _) :: (17, I _) :: _) rfl <| nn <| cm_ret <| xm_inR <| xm_thenR <| xm_lret <| xm_inR <| xm_lret <| xr [] ()
   ·refine cm_skip <| xm_inN <| xm_next <| cm_region <| lm_ck (fun t => ?_)
    exact va 18 t rfl rfl <| la 1 ((8, I _) :: _) rfl <| lm_nil <| xn () []
  ·exact cm_exit <| xm_thenE <| xm_lexit <| xm_here <| xm_lnext () sub_nil (sh [])
 intro j l
 exact sr <| la 1 ((4, I _) :: _) rfl <| nn <| cm_ret <| xr [] ()
/-- slices.Contains -/
def m_slices_Contains_73 (N : Nat) (p0 : (List Int)) (p1 : Int) : Option (Bool) :=
 Option.bind (m_slices_Index_126 N p0 p1) fun r5 => some ((decide (0 ≤ r5)))
set_option maxRecDepth 20000 in
theorem m_slices_Contains_73_ok (N : Nat) (w0 : World) (p0 : (List Int)) (p1 : Int) (a : Ad) (b d : Nat) (e : RdE w0 1 encI a p0) (f : SW a b d (List.length p0)) (r : Bool) (hr : m_slices_Contains_73 N p0 p1 = some r) :
  Ret Tryz.prog 73 [S a b d, I p1] w0 VB H0 r := by
 refine calls_v (n := 9) r hr Tryz.func73 ?_
 unfold m_slices_Contains_73
 exact sr <| la 1 ((4, B false) :: _) rfl <| nn <| sr <| la 2 ((6, I _) :: (5, S _ _ _) :: _) rfl <| lc 7 (fun r1 hr1 w1 c1 => m_slices_Index_126_ok N w1 p0 p1 a b d (e.old c1) f r1 hr1) fun r5 u6 => la 2 ((4, B _) :: (8, B _) :: _) rfl <| nn <| cm_ret <| xr [] ()
/-- (*audit.invoice).items -/
def m_audit_invoice_items (N : Nat) (p0 : AuditInvoice) (_p0f9c0 : Unit) (p0f9c0p1 : (List ApiFinding)) (p1 : Int) : Option ((List ApiFinding)) :=
 (andThen
  (Option.bind (m_audit_invoice_balanced N (AuditInvoice.mk p0.Bill p0.account_ p0.base_ p0.counted_ ())) fun i => (if (!i) = true then
   Option.bind (m_audit_collector_1 N (10 : Int) p1 (0 : Int) () p0f9c0p1) fun _G => some (.next (p0f9c0p1 ++ ([(ApiFinding.mk (10 : Int) p1 (0 : Int))])))
  else
   some (.next p0f9c0p1)))
 fun (j : (List ApiFinding)) =>
  (andThen
   (loopM (fun (d : (List ApiFinding) × Int) =>
    (if d.2 < (List.length p0.Bill.Items : Int) then
     (andThen
      (ck (0 ≤ d.2 ∧ d.2 < (List.length p0.Bill.Items : Int)) (
       Option.bind (m_audit_invoice_right N (AuditInvoice.mk p0.Bill p0.account_ p0.base_ p0.counted_ ()) (ix p0.Bill.Items d.2)) fun l => (if (!l) = true then
        Option.bind (m_audit_collector_1 N (11 : Int) p1 d.2 () d.1) fun _J => some (.next (d.1 ++ ([(ApiFinding.mk (11 : Int) p1 d.2)])))
       else
        some (.next d.1))))
     fun (m : (List ApiFinding)) =>
      ck (I64 (d.2 + 1)) (
       some (.next (m, (d.2 + 1)))))
    else
     some (.done (.next d.1)))) N (j, (0 : Int)))
  fun (f : (List ApiFinding)) =>
   (andThen
    (Option.bind (m_slices_ContainsFunc_audit_invoice_items_1 N p0.base_ () (AuditInvoice.mk p0.Bill p0.account_ p0.base_ p0.counted_ ())) fun o => (if o = true then
     Option.bind (m_audit_collector_1 N (12 : Int) p1 (0 : Int) () f) fun _K => some (.next (f ++ ([(ApiFinding.mk (12 : Int) p1 (0 : Int))])))
    else
     some (.next f)))
   fun (q : (List ApiFinding)) =>
    (andThen
     (loopM (fun (b : (List ApiFinding) × Int) =>
      (if b.2 < (List.length p0.counted_ : Int) then
       (andThen
        (ck (0 ≤ b.2 ∧ b.2 < (List.length p0.counted_ : Int)) (
         ck (0 ≤ (ix p0.counted_ b.2) ∧ (ix p0.counted_ b.2) < (List.length p0.account_.Emptyings : Int)) (
          Option.bind (m_audit_invoice_charges N (AuditInvoice.mk p0.Bill p0.account_ p0.base_ p0.counted_ ()) ((ix p0.account_.Emptyings (ix p0.counted_ b.2)).ID)) fun t => (if t < 0 then
           Option.bind (m_audit_collector_1 N (12 : Int) p1 ((ix p0.account_.Emptyings (ix p0.counted_ b.2)).ID) () b.1) fun _L => some (.next (b.1 ++ ([(ApiFinding.mk (12 : Int) p1 ((ix p0.account_.Emptyings (ix p0.counted_ b.2)).ID))])))
          else
           some (.next b.1)))))
       fun (v : (List ApiFinding)) =>
        ck (I64 (b.2 + 1)) (
         some (.next (v, (b.2 + 1)))))
      else
       some (.done (.next b.1)))) N (q, (0 : Int)))
    fun (x : (List ApiFinding)) =>
     (loopM (fun (a : (List ApiFinding) × Int) =>
      (if a.2 < (List.length p0.Bill.Items : Int) then
       (andThen
        (ck (0 ≤ a.2 ∧ a.2 < (List.length p0.Bill.Items : Int)) (
         callIf ((!(decide ((ix p0.Bill.Items a.2).Kind ≠ 2))) = true) (m_audit_invoice_charges N (AuditInvoice.mk p0.Bill p0.account_ p0.base_ p0.counted_ ()) ((ix p0.Bill.Items a.2).Ref)) fun y => (if ((decide ((ix p0.Bill.Items a.2).Kind ≠ 2)) || (decide (y ≠ a.2))) = true then
          some (.next a.1)
         else
          Option.bind (m_audit_invoice_record N (AuditInvoice.mk p0.Bill p0.account_ p0.base_ p0.counted_ ()) ((ix p0.Bill.Items a.2).Ref)) fun e => callIf (e.2 = true) (m_slices_Contains_73 N p0.counted_ e.1) fun g => callIf ((e.2 && (!g)) = true) (m_audit_invoice_credited N (AuditInvoice.mk p0.Bill p0.account_ p0.base_ p0.counted_ ()) ((ix p0.Bill.Items a.2).Ref)) fun z => (if ((e.2 && (!g)) && (!z)) = true then
           Option.bind (m_audit_collector_1 N (13 : Int) p1 ((ix p0.Bill.Items a.2).Ref) () a.1) fun _M => some (.next (a.1 ++ ([(ApiFinding.mk (13 : Int) p1 ((ix p0.Bill.Items a.2).Ref))])))
          else
           some (.next a.1)))))
       fun (C : (List ApiFinding)) =>
        ck (I64 (a.2 + 1)) (
         some (.next (C, (a.2 + 1)))))
      else
       some (.done (a.1)))) N (x, (0 : Int)))))))
set_option maxHeartbeats 2000000 in
set_option maxRecDepth 20000 in
theorem m_audit_invoice_items_ok (N : Nat) (w0 w : World) (F : List HE) (p0 : AuditInvoice) (p0f9c0 : Unit) (p0f9c0p1 : (List ApiFinding)) (p1 : Int) (l : Nat) (m : Ad) (o q : Nat) (Q : Ad) (U X : Nat) (Y : Ad) (Z a0 : Nat) (t : Ad) (C G : Nat) (y : Ad) (J K : Nat) (z : Ad) (L M : Nat) (g : Ad) (i j : Nat) (d : Ad) (e f : Nat) (b a : Nat) (a8 : Ad) (a9 aa : Nat) (ab : RdE w0 5 encApiItem m p0.Bill.Items) (ac : SW m o q (List.length p0.Bill.Items)) (ax : RdE w0 4 encApiAssign t p0.account_.Assigns) (ay : SW t C G (List.length p0.account_.Assigns)) (an : RdE w0 7 encApiEmptying y p0.account_.Emptyings) (ar : SW y J K (List.length p0.account_.Emptyings)) (bd : RdE w0 5 encApiTariff z p0.account_.Tariffs) (be : SW z L M (List.length p0.account_.Tariffs)) (hw : Hs w0 ([blkE l 74 [I p0.Bill.ID, I p0.Bill.Household, I p0.Bill.When.From, I p0.Bill.When.To, S m o q, I p0.Bill.Total, S Q U X, S Y Z a0, S t C G, S y J K, S z L M, I p0.account_.Gap, S g i j, S d e f, .func (.func 58) #[] #[.pointer (some ⟨b, 0, none⟩)]], ownE 100 5 encApiItem g i j p0.base_, ownE 3 1 encI d e f p0.counted_, blkE b 70 [.pointer (some ⟨a, 0, none⟩)], blkE a 43 [S a8 a9 aa], ownE 64 3 encApiFinding a8 a9 aa p0f9c0p1] ++ [packE w0.heap.size F]) w) (r : (List ApiFinding)) (hr : m_audit_invoice_items N p0 p0f9c0 p0f9c0p1 p1 = some r) :
  Calls Tryz.prog 26 [.pointer (some ⟨l, 0, none⟩), I p1].toArray w fun x w1 => ∃ u, x = .returned ((fun (_r : (List ApiFinding)) (_u : Hdr) => (.tuple #[] : Value)) r u) ∧ Hs w0 ((fun (r : (List ApiFinding)) (u : Hdr) => [blkE l 74 [I p0.Bill.ID, I p0.Bill.Household, I p0.Bill.When.From, I p0.Bill.When.To, S m o q, I p0.Bill.Total, S Q U X, S Y Z a0, S t C G, S y J K, S z L M, I p0.account_.Gap, S g i j, S d e f, .func (.func 58) #[] #[.pointer (some ⟨b, 0, none⟩)]], ownE 100 5 encApiItem g i j p0.base_, ownE 3 1 encI d e f p0.counted_, blkE b 70 [.pointer (some ⟨a, 0, none⟩)], blkE a 43 [S u.1 u.2.1 u.2.2], ownE 64 3 encApiFinding u.1 u.2.1 u.2.2 r]) r u ++ [packE w0.heap.size F]) w1 := by
 refine calls_cmH (n := 142) (R := fun r x w1 => ∃ u, x = .returned ((fun (_r : (List ApiFinding)) (_u : Hdr) => (.tuple #[] : Value)) r u) ∧ Hs w0 ((fun (r : (List ApiFinding)) (u : Hdr) => [blkE l 74 [I p0.Bill.ID, I p0.Bill.Household, I p0.Bill.When.From, I p0.Bill.When.To, S m o q, I p0.Bill.Total, S Q U X, S Y Z a0, S t C G, S y J K, S z L M, I p0.account_.Gap, S g i j, S d e f, .func (.func 58) #[] #[.pointer (some ⟨b, 0, none⟩)]], ownE 100 5 encApiItem g i j p0.base_, ownE 3 1 encI d e f p0.counted_, blkE b 70 [.pointer (some ⟨a, 0, none⟩)], blkE a 43 [S u.1 u.2.1 u.2.2], ownE 64 3 encApiFinding u.1 u.2.1 u.2.2 r]) r u ++ [packE w0.heap.size F]) w1) Tryz.func26 rfl rfl (Nat.le_of_ble_eq_true rfl) ?_ hw r hr
 unfold m_audit_invoice_items
 refine sr <| bx 2 [.pointer (some ⟨_, _, _⟩)] rfl fun a1 => nn <| cm_join (σ := (List ApiFinding)) (ξ := Hdr) (fun az ae => [(1, I p1), (2, .pointer (some ⟨a1, 0, none⟩))]) (fun az ae => [blkE a1 72 [.pointer (some ⟨l, 0, none⟩)], blkE l 74 [I p0.Bill.ID, I p0.Bill.Household, I p0.Bill.When.From, I p0.Bill.When.To, S m o q, I p0.Bill.Total, S Q U X, S Y Z a0, S t C G, S y J K, S z L M, I p0.account_.Gap, S g i j, S d e f, .func (.func 58) #[] #[.pointer (some ⟨b, 0, none⟩)]], ownE 100 5 encApiItem g i j p0.base_, ownE 3 1 encI d e f p0.counted_, blkE b 70 [.pointer (some ⟨a, 0, none⟩)], blkE a 43 [S ae.1 ae.2.1 ae.2.2], ownE 64 3 encApiFinding ae.1 ae.2.1 ae.2.2 az, packE w0.heap.size F]) ?_ ?_
 ·refine sr <| vc 13 0 rfl rfl rfl <| lc 14 (fun r1 hr1 w1 c1 => m_audit_invoice_balanced_ok N w1 (AuditInvoice.mk p0.Bill p0.account_ p0.base_ p0.counted_ ()) l m o q Q U X Y Z a0 t C G y J K z L M g i j d e f (.func (.func 58) #[] #[.pointer (some ⟨b, 0, none⟩)] : Value) (c1.blk 1 rfl) (ab.old c1) ac r1 hr1) fun c7 c8 => la 1 ((15, B _) :: _) rfl <| nn <| cB rfl (fun bn => ?_) (fun bn => ?_)
  ·exact cm_region <| vc 16 0 rfl rfl rfl <| v_ 17 (fun _ _ => op_nilCheck rfl) <| vf 18 14 14 rfl <| vc 19 1 rfl rfl rfl <| la 1 ((20, I _) :: _) rfl <| lm_callH 21 (V := (fun (_r : Unit) (_u : Hdr) => (.tuple #[] : Value))) [blkE b 70 [.pointer (some ⟨a, 0, none⟩)], blkE a 43 [S a8 a9 aa], ownE 64 3 encApiFinding a8 a9 aa p0f9c0p1] [blkE a1 72 [.pointer (some ⟨l, 0, none⟩)], blkE l 74 [I p0.Bill.ID, I p0.Bill.Household, I p0.Bill.When.From, I p0.Bill.When.To, S m o q, I p0.Bill.Total, S Q U X, S Y Z a0, S t C G, S y J K, S z L M, I p0.account_.Gap, S g i j, S d e f, .func (.func 58) #[] #[.pointer (some ⟨b, 0, none⟩)]], ownE 100 5 encApiItem g i j p0.base_, ownE 3 1 encI d e f p0.counted_, packE w0.heap.size F] (O := (fun (_r : Unit) (u : Hdr) => [blkE b 70 [.pointer (some ⟨a, 0, none⟩)], blkE a 43 [S u.1 u.2.1 u.2.2], ownE 64 3 encApiFinding u.1 u.2.1 u.2.2 (p0f9c0p1 ++ ([(ApiFinding.mk (10 : Int) p1 (0 : Int))]))])) (sh [4, 5, 6, 0, 1, 2, 3, 7]) (by kernel_rfl) (fun w1 => op_callv rfl (by kernel_rfl)) (fun r1 hr1 w1 c1 => m_audit_collector_1_ok N w0 w1 [blkE a1 72 [.pointer (some ⟨l, 0, none⟩)], blkE l 74 [I p0.Bill.ID, I p0.Bill.Household, I p0.Bill.When.From, I p0.Bill.When.To, S m o q, I p0.Bill.Total, S Q U X, S Y Z a0, S t C G, S y J K, S z L M, I p0.account_.Gap, S g i j, S d e f, .func (.func 58) #[] #[.pointer (some ⟨b, 0, none⟩)]], ownE 100 5 encApiItem g i j p0.base_, ownE 3 1 encI d e f p0.counted_, packE w0.heap.size F] (10 : Int) p1 (0 : Int) () p0f9c0p1 b a a8 a9 aa  c1 r1 hr1) fun c9 b0 => lm_nil <| xn (b0.1, b0.2.1, b0.2.2) [3, 4, 5, 6, 0, 1, 2, 7]
  ·exact cm_skip <| xn (a8, a9, aa) [0, 1, 2, 3, 4, 5, 6, 7]
 intro az ae
 refine cm_join (σ := (List ApiFinding)) (ξ := Hdr) (fun ao a7 => [(1, I p1), (2, .pointer (some ⟨a1, 0, none⟩))]) (fun ao a7 => [blkE a1 72 [.pointer (some ⟨l, 0, none⟩)], blkE l 74 [I p0.Bill.ID, I p0.Bill.Household, I p0.Bill.When.From, I p0.Bill.When.To, S m o q, I p0.Bill.Total, S Q U X, S Y Z a0, S t C G, S y J K, S z L M, I p0.account_.Gap, S g i j, S d e f, .func (.func 58) #[] #[.pointer (some ⟨b, 0, none⟩)]], ownE 100 5 encApiItem g i j p0.base_, ownE 3 1 encI d e f p0.counted_, blkE b 70 [.pointer (some ⟨a, 0, none⟩)], blkE a 43 [S a7.1 a7.2.1 a7.2.2], ownE 64 3 encApiFinding a7.1 a7.2.1 a7.2.2 ao, packE w0.heap.size F]) ?_ ?_
 ·refine sr <| vc 22 0 rfl rfl rfl <| v_ 23 (fun _ _ => op_nilCheck rfl) <| vf 24 0 0 rfl <| vf 25 4 4 rfl <| vc 26 1 rfl rfl rfl <| vn 27 ac rfl <| la 1 ((28, I _) :: _) rfl <| nn <| cm_block <| cm_loop (σ := (List ApiFinding) × Int) (ξ := Hdr) (fun a6 a4 => [(1, I p1), (2, .pointer (some ⟨a1, 0, none⟩)), (26, S m o q), (27, I (List.length p0.Bill.Items : Int)), (28, I a6.2)]) (fun a6 a4 => [blkE a1 72 [.pointer (some ⟨l, 0, none⟩)], blkE l 74 [I p0.Bill.ID, I p0.Bill.Household, I p0.Bill.When.From, I p0.Bill.When.To, S m o q, I p0.Bill.Total, S Q U X, S Y Z a0, S t C G, S y J K, S z L M, I p0.account_.Gap, S g i j, S d e f, .func (.func 58) #[] #[.pointer (some ⟨b, 0, none⟩)]], ownE 100 5 encApiItem g i j p0.base_, ownE 3 1 encI d e f p0.counted_, blkE b 70 [.pointer (some ⟨a, 0, none⟩)], blkE a 43 [S a4.1 a4.2.1 a4.2.2], ownE 64 3 encApiFinding a4.1 a4.2.1 a4.2.2 a6.1, packE w0.heap.size F]) (ae.1, ae.2.1, ae.2.2) ?_ ?_ ?_
  ·exact sq
  ·exact sh [0, 1, 2, 3, 4, 5, 6, 7]
  intro a6 a4
  refine sr <| la 1 ((29, B _) :: _) rfl <| nn <| cm_seq <| cc rfl (fun bo => ?_) (fun bo => ?_)
  ·refine sk <| cm_join (σ := (List ApiFinding)) (ξ := Hdr) (fun b1 af => [(1, I p1), (2, .pointer (some ⟨a1, 0, none⟩)), (26, S m o q), (27, I (List.length p0.Bill.Items : Int)), (28, I a6.2)]) (fun b1 af => [blkE a1 72 [.pointer (some ⟨l, 0, none⟩)], blkE l 74 [I p0.Bill.ID, I p0.Bill.Household, I p0.Bill.When.From, I p0.Bill.When.To, S m o q, I p0.Bill.Total, S Q U X, S Y Z a0, S t C G, S y J K, S z L M, I p0.account_.Gap, S g i j, S d e f, .func (.func 58) #[] #[.pointer (some ⟨b, 0, none⟩)]], ownE 100 5 encApiItem g i j p0.base_, ownE 3 1 encI d e f p0.counted_, blkE b 70 [.pointer (some ⟨a, 0, none⟩)], blkE a 43 [S af.1 af.2.1 af.2.2], ownE 64 3 encApiFinding af.1 af.2.1 af.2.2 b1, packE w0.heap.size F]) ?_ ?_
   ·refine cm_block <| sr <| la 1 ((30, I _) :: _) rfl <| lm_ck (fun bf => ?_)
    refine vi 31 5 ab ac bf rfl rfl <| vr 32 ab bf rfl <| al 5 [I 0, I 0, I 0, I 0, I 0] (v := .agg #[I 0, I 0, I 0, I 0, I 0]) rfl fun bg => la 1 ((4, I _) :: _) rfl <| sA 0 [I _, I _, I _, I _, I _] [_, _, _, _, _] (H' := [blkE _ _ [_, _, _, _, _], _, _, _, _, _, _, _, _]) rfl rfl rfl rfl rfl rfl <| nn <| sr <| vc 33 1 rfl rfl rfl <| vR 34 [I _, I _, I _, I _, I _] 0 rfl rfl rfl <| lc 35 (fun r1 hr1 w1 c1 => m_audit_invoice_right_ok N w1 (AuditInvoice.mk p0.Bill p0.account_ p0.base_ p0.counted_ ()) (ix p0.Bill.Items a6.2) l m o q Q U X Y Z a0 t C G y J K z L M g i j d e f (.func (.func 58) #[] #[.pointer (some ⟨b, 0, none⟩)] : Value) (c1.blk 2 rfl) (ax.old c1) ay (an.old c1) ar (bd.old c1) be (c1.own 3 rfl encApiItem_len) (c1.ownZ 3 rfl) r1 hr1) fun ca cb => la 1 ((36, B _) :: _) rfl <| nn <| cB rfl (fun bp => ?_) (fun bp => ?_)
    ·exact cm_region <| vc 37 1 rfl rfl rfl <| v_ 38 (fun _ _ => op_nilCheck rfl) <| vf 39 14 14 rfl <| vc 40 2 rfl rfl rfl <| la 2 ((42, I _) :: (41, I _) :: _) rfl <| lm_callH 43 (V := (fun (_r : Unit) (_u : Hdr) => (.tuple #[] : Value))) [blkE b 70 [.pointer (some ⟨a, 0, none⟩)], blkE a 43 [S a4.1 a4.2.1 a4.2.2], ownE 64 3 encApiFinding a4.1 a4.2.1 a4.2.2 a6.1] [blkE bg 100 [I ((ix p0.Bill.Items a6.2).Kind), I ((ix p0.Bill.Items a6.2).Ref), I ((ix p0.Bill.Items a6.2).Count), I ((ix p0.Bill.Items a6.2).Price), I ((ix p0.Bill.Items a6.2).Amount)], blkE a1 72 [.pointer (some ⟨l, 0, none⟩)], blkE l 74 [I p0.Bill.ID, I p0.Bill.Household, I p0.Bill.When.From, I p0.Bill.When.To, S m o q, I p0.Bill.Total, S Q U X, S Y Z a0, S t C G, S y J K, S z L M, I p0.account_.Gap, S g i j, S d e f, .func (.func 58) #[] #[.pointer (some ⟨b, 0, none⟩)]], ownE 100 5 encApiItem g i j p0.base_, ownE 3 1 encI d e f p0.counted_, packE w0.heap.size F] (O := (fun (_r : Unit) (u : Hdr) => [blkE b 70 [.pointer (some ⟨a, 0, none⟩)], blkE a 43 [S u.1 u.2.1 u.2.2], ownE 64 3 encApiFinding u.1 u.2.1 u.2.2 (a6.1 ++ ([(ApiFinding.mk (11 : Int) p1 a6.2)]))])) (sh [5, 6, 7, 0, 1, 2, 3, 4, 8]) (by kernel_rfl) (fun w1 => op_callv rfl (by kernel_rfl)) (fun r1 hr1 w1 c1 => m_audit_collector_1_ok N w0 w1 [blkE bg 100 [I ((ix p0.Bill.Items a6.2).Kind), I ((ix p0.Bill.Items a6.2).Ref), I ((ix p0.Bill.Items a6.2).Count), I ((ix p0.Bill.Items a6.2).Price), I ((ix p0.Bill.Items a6.2).Amount)], blkE a1 72 [.pointer (some ⟨l, 0, none⟩)], blkE l 74 [I p0.Bill.ID, I p0.Bill.Household, I p0.Bill.When.From, I p0.Bill.When.To, S m o q, I p0.Bill.Total, S Q U X, S Y Z a0, S t C G, S y J K, S z L M, I p0.account_.Gap, S g i j, S d e f, .func (.func 58) #[] #[.pointer (some ⟨b, 0, none⟩)]], ownE 100 5 encApiItem g i j p0.base_, ownE 3 1 encI d e f p0.counted_, packE w0.heap.size F] (11 : Int) p1 a6.2 () a6.1 b a a4.1 a4.2.1 a4.2.2  c1 r1 hr1) fun cd b2 => lm_nil <| xm_inN <| xn (b2.1, b2.2.1, b2.2.2) [4, 5, 6, 7, 0, 1, 2, 8]
    ·exact cm_skip <| xm_inN <| xn (a4.1, a4.2.1, a4.2.2) [1, 2, 3, 4, 5, 6, 7, 8]
   intro b1 af
   refine cm_region <| lm_ck (fun bq => ?_)
   exact va 44 bq rfl rfl <| la 1 ((28, I _) :: _) rfl <| lm_nil <| xn (af.1, af.2.1, af.2.2) [0, 1, 2, 3, 4, 5, 6, 7]
  ·exact cm_exit <| xm_thenE <| xm_lexit <| xm_here <| xn (a4.1, a4.2.1, a4.2.2) [0, 1, 2, 3, 4, 5, 6, 7]
 intro ao a7
 refine cm_join (σ := (List ApiFinding)) (ξ := Hdr) (fun b3 ag => [(1, I p1), (2, .pointer (some ⟨a1, 0, none⟩))]) (fun b3 ag => [blkE a1 72 [.pointer (some ⟨l, 0, none⟩)], blkE l 74 [I p0.Bill.ID, I p0.Bill.Household, I p0.Bill.When.From, I p0.Bill.When.To, S m o q, I p0.Bill.Total, S Q U X, S Y Z a0, S t C G, S y J K, S z L M, I p0.account_.Gap, S g i j, S d e f, .func (.func 58) #[] #[.pointer (some ⟨b, 0, none⟩)]], ownE 100 5 encApiItem g i j p0.base_, ownE 3 1 encI d e f p0.counted_, blkE b 70 [.pointer (some ⟨a, 0, none⟩)], blkE a 43 [S ag.1 ag.2.1 ag.2.2], ownE 64 3 encApiFinding ag.1 ag.2.1 ag.2.2 b3, packE w0.heap.size F]) ?_ ?_
 ·refine sr <| vc 45 0 rfl rfl rfl <| v_ 46 (fun _ _ => op_nilCheck rfl) <| vf 47 12 12 rfl <| vc 48 1 rfl rfl rfl <| v_ 49 (fun _ _ => op_makeFuncC [.pointer (some ⟨_, _, _⟩)] rfl) <| lc 50 (fun r1 hr1 w1 c1 => m_slices_ContainsFunc_audit_invoice_items_1_ok N w1 p0.base_ () (AuditInvoice.mk p0.Bill p0.account_ p0.base_ p0.counted_ ()) g i j a1 l m o q Q U X Y Z a0 t C G y J K z L M g i j d e f (.func (.func 58) #[] #[.pointer (some ⟨b, 0, none⟩)] : Value) (c1.own 2 rfl encApiItem_len) (c1.ownZ 2 rfl) (c1.blk 0 rfl) (c1.blk 1 rfl) (ab.old c1) ac r1 hr1) fun ce cf => nn <| cB rfl (fun br => ?_) (fun br => ?_)
  ·exact cm_region <| vc 51 0 rfl rfl rfl <| v_ 52 (fun _ _ => op_nilCheck rfl) <| vf 53 14 14 rfl <| vc 54 1 rfl rfl rfl <| la 1 ((55, I _) :: _) rfl <| lm_callH 56 (V := (fun (_r : Unit) (_u : Hdr) => (.tuple #[] : Value))) [blkE b 70 [.pointer (some ⟨a, 0, none⟩)], blkE a 43 [S a7.1 a7.2.1 a7.2.2], ownE 64 3 encApiFinding a7.1 a7.2.1 a7.2.2 ao] [blkE a1 72 [.pointer (some ⟨l, 0, none⟩)], blkE l 74 [I p0.Bill.ID, I p0.Bill.Household, I p0.Bill.When.From, I p0.Bill.When.To, S m o q, I p0.Bill.Total, S Q U X, S Y Z a0, S t C G, S y J K, S z L M, I p0.account_.Gap, S g i j, S d e f, .func (.func 58) #[] #[.pointer (some ⟨b, 0, none⟩)]], ownE 100 5 encApiItem g i j p0.base_, ownE 3 1 encI d e f p0.counted_, packE w0.heap.size F] (O := (fun (_r : Unit) (u : Hdr) => [blkE b 70 [.pointer (some ⟨a, 0, none⟩)], blkE a 43 [S u.1 u.2.1 u.2.2], ownE 64 3 encApiFinding u.1 u.2.1 u.2.2 (ao ++ ([(ApiFinding.mk (12 : Int) p1 (0 : Int))]))])) (sh [4, 5, 6, 0, 1, 2, 3, 7]) (by kernel_rfl) (fun w1 => op_callv rfl (by kernel_rfl)) (fun r1 hr1 w1 c1 => m_audit_collector_1_ok N w0 w1 [blkE a1 72 [.pointer (some ⟨l, 0, none⟩)], blkE l 74 [I p0.Bill.ID, I p0.Bill.Household, I p0.Bill.When.From, I p0.Bill.When.To, S m o q, I p0.Bill.Total, S Q U X, S Y Z a0, S t C G, S y J K, S z L M, I p0.account_.Gap, S g i j, S d e f, .func (.func 58) #[] #[.pointer (some ⟨b, 0, none⟩)]], ownE 100 5 encApiItem g i j p0.base_, ownE 3 1 encI d e f p0.counted_, packE w0.heap.size F] (12 : Int) p1 (0 : Int) () ao b a a7.1 a7.2.1 a7.2.2  c1 r1 hr1) fun cg b4 => lm_nil <| xn (b4.1, b4.2.1, b4.2.2) [3, 4, 5, 6, 0, 1, 2, 7]
  ·exact cm_skip <| xn (a7.1, a7.2.1, a7.2.2) [0, 1, 2, 3, 4, 5, 6, 7]
 intro b3 ag
 refine cm_join (σ := (List ApiFinding)) (ξ := Hdr) (fun b5 ah => [(1, I p1), (2, .pointer (some ⟨a1, 0, none⟩))]) (fun b5 ah => [blkE a1 72 [.pointer (some ⟨l, 0, none⟩)], blkE l 74 [I p0.Bill.ID, I p0.Bill.Household, I p0.Bill.When.From, I p0.Bill.When.To, S m o q, I p0.Bill.Total, S Q U X, S Y Z a0, S t C G, S y J K, S z L M, I p0.account_.Gap, S g i j, S d e f, .func (.func 58) #[] #[.pointer (some ⟨b, 0, none⟩)]], ownE 100 5 encApiItem g i j p0.base_, ownE 3 1 encI d e f p0.counted_, blkE b 70 [.pointer (some ⟨a, 0, none⟩)], blkE a 43 [S ah.1 ah.2.1 ah.2.2], ownE 64 3 encApiFinding ah.1 ah.2.1 ah.2.2 b5, packE w0.heap.size F]) ?_ ?_
 ·refine sr <| vc 57 0 rfl rfl rfl <| v_ 58 (fun _ _ => op_nilCheck rfl) <| vf 59 13 13 rfl <| vc 60 1 rfl rfl rfl <| v_ 61 (fun _ c1 => op_lenN rfl (by kernel_rfl) (c1.ownZ 3 rfl).2.2) <| la 1 ((62, I _) :: _) rfl <| nn <| cm_block <| cm_loop (σ := (List ApiFinding) × Int) (ξ := Hdr) (fun ad a5 => [(1, I p1), (2, .pointer (some ⟨a1, 0, none⟩)), (60, S d e f), (61, I (List.length p0.counted_ : Int)), (62, I ad.2)]) (fun ad a5 => [blkE a1 72 [.pointer (some ⟨l, 0, none⟩)], blkE l 74 [I p0.Bill.ID, I p0.Bill.Household, I p0.Bill.When.From, I p0.Bill.When.To, S m o q, I p0.Bill.Total, S Q U X, S Y Z a0, S t C G, S y J K, S z L M, I p0.account_.Gap, S g i j, S d e f, .func (.func 58) #[] #[.pointer (some ⟨b, 0, none⟩)]], ownE 100 5 encApiItem g i j p0.base_, ownE 3 1 encI d e f p0.counted_, blkE b 70 [.pointer (some ⟨a, 0, none⟩)], blkE a 43 [S a5.1 a5.2.1 a5.2.2], ownE 64 3 encApiFinding a5.1 a5.2.1 a5.2.2 ad.1, packE w0.heap.size F]) (ag.1, ag.2.1, ag.2.2) ?_ ?_ ?_
  ·exact sq
  ·exact sh [0, 1, 2, 3, 4, 5, 6, 7]
  intro ad a5
  refine sr <| la 1 ((63, B _) :: _) rfl <| nn <| cm_seq <| cc rfl (fun bs => ?_) (fun bs => ?_)
  ·refine sk <| cm_join (σ := (List ApiFinding)) (ξ := Hdr) (fun b6 ai => [(1, I p1), (2, .pointer (some ⟨a1, 0, none⟩)), (60, S d e f), (61, I (List.length p0.counted_ : Int)), (62, I ad.2)]) (fun b6 ai => [blkE a1 72 [.pointer (some ⟨l, 0, none⟩)], blkE l 74 [I p0.Bill.ID, I p0.Bill.Household, I p0.Bill.When.From, I p0.Bill.When.To, S m o q, I p0.Bill.Total, S Q U X, S Y Z a0, S t C G, S y J K, S z L M, I p0.account_.Gap, S g i j, S d e f, .func (.func 58) #[] #[.pointer (some ⟨b, 0, none⟩)]], ownE 100 5 encApiItem g i j p0.base_, ownE 3 1 encI d e f p0.counted_, blkE b 70 [.pointer (some ⟨a, 0, none⟩)], blkE a 43 [S ai.1 ai.2.1 ai.2.2], ownE 64 3 encApiFinding ai.1 ai.2.1 ai.2.2 b6, packE w0.heap.size F]) ?_ ?_
   ·refine cm_block <| sr <| lm_ck (fun au => ?_)
    refine v_ 64 (fun _ c1 => oI 1 rfl rfl ((c1.own 3 rfl encI_len).addr au.1 au.2) (c1.ownZ 3 rfl).2.2 au) <| v_ 65 (fun _ c1 => oL (v := I (ix p0.counted_ ad.2)) ((c1.own 3 rfl encI_len).cell0 au.1 au.2 rfl)) <| la 1 ((7, I _) :: _) rfl <| nn <| sr <| vc 66 0 rfl rfl rfl <| v_ 67 (fun _ _ => op_nilCheck rfl) <| vf 68 6 6 rfl <| vf 69 3 9 rfl <| vc 70 1 rfl rfl rfl <| la 1 ((71, I _) :: _) rfl <| lm_ck (fun b7 => ?_)
    refine vi 72 7 an ar b7 rfl rfl <| vF 73 rfl <| v_ 74 (fun _ c1 => oL (v := I ((ix p0.account_.Emptyings (ix p0.counted_ ad.2)).ID)) ((an.old c1).cell0 b7.1 b7.2 rfl)) <| la 1 ((8, I _) :: _) rfl <| nn <| sr <| vc 75 0 rfl rfl rfl <| la 1 ((76, I _) :: _) rfl <| lc 77 (fun r1 hr1 w1 c1 => m_audit_invoice_charges_ok N w1 (AuditInvoice.mk p0.Bill p0.account_ p0.base_ p0.counted_ ()) ((ix p0.account_.Emptyings (ix p0.counted_ ad.2)).ID) l m o q Q U X Y Z a0 t C G y J K z L M g i j d e f (.func (.func 58) #[] #[.pointer (some ⟨b, 0, none⟩)] : Value) (c1.blk 1 rfl) (ab.old c1) ac r1 hr1) fun ch ci => la 1 ((78, B _) :: _) rfl <| nn <| cc rfl (fun bt => ?_) (fun bt => ?_)
    ·exact cm_region <| vc 79 0 rfl rfl rfl <| v_ 80 (fun _ _ => op_nilCheck rfl) <| vf 81 14 14 rfl <| vc 82 1 rfl rfl rfl <| la 2 ((84, I _) :: (83, I _) :: _) rfl <| lm_callH 85 (V := (fun (_r : Unit) (_u : Hdr) => (.tuple #[] : Value))) [blkE b 70 [.pointer (some ⟨a, 0, none⟩)], blkE a 43 [S a5.1 a5.2.1 a5.2.2], ownE 64 3 encApiFinding a5.1 a5.2.1 a5.2.2 ad.1] [blkE a1 72 [.pointer (some ⟨l, 0, none⟩)], blkE l 74 [I p0.Bill.ID, I p0.Bill.Household, I p0.Bill.When.From, I p0.Bill.When.To, S m o q, I p0.Bill.Total, S Q U X, S Y Z a0, S t C G, S y J K, S z L M, I p0.account_.Gap, S g i j, S d e f, .func (.func 58) #[] #[.pointer (some ⟨b, 0, none⟩)]], ownE 100 5 encApiItem g i j p0.base_, ownE 3 1 encI d e f p0.counted_, packE w0.heap.size F] (O := (fun (_r : Unit) (u : Hdr) => [blkE b 70 [.pointer (some ⟨a, 0, none⟩)], blkE a 43 [S u.1 u.2.1 u.2.2], ownE 64 3 encApiFinding u.1 u.2.1 u.2.2 (ad.1 ++ ([(ApiFinding.mk (12 : Int) p1 ((ix p0.account_.Emptyings (ix p0.counted_ ad.2)).ID))]))])) (sh [4, 5, 6, 0, 1, 2, 3, 7]) (by kernel_rfl) (fun w1 => op_callv rfl (by kernel_rfl)) (fun r1 hr1 w1 c1 => m_audit_collector_1_ok N w0 w1 [blkE a1 72 [.pointer (some ⟨l, 0, none⟩)], blkE l 74 [I p0.Bill.ID, I p0.Bill.Household, I p0.Bill.When.From, I p0.Bill.When.To, S m o q, I p0.Bill.Total, S Q U X, S Y Z a0, S t C G, S y J K, S z L M, I p0.account_.Gap, S g i j, S d e f, .func (.func 58) #[] #[.pointer (some ⟨b, 0, none⟩)]], ownE 100 5 encApiItem g i j p0.base_, ownE 3 1 encI d e f p0.counted_, packE w0.heap.size F] (12 : Int) p1 ((ix p0.account_.Emptyings (ix p0.counted_ ad.2)).ID) () ad.1 b a a5.1 a5.2.1 a5.2.2  c1 r1 hr1) fun cj b8 => lm_nil <| xm_inN <| xn (b8.1, b8.2.1, b8.2.2) [3, 4, 5, 6, 0, 1, 2, 7]
    ·exact cm_skip <| xm_inN <| xn (a5.1, a5.2.1, a5.2.2) [0, 1, 2, 3, 4, 5, 6, 7]
   intro b6 ai
   refine cm_region <| lm_ck (fun bu => ?_)
   exact va 86 bu rfl rfl <| la 1 ((62, I _) :: _) rfl <| lm_nil <| xn (ai.1, ai.2.1, ai.2.2) [0, 1, 2, 3, 4, 5, 6, 7]
  ·exact cm_exit <| xm_thenE <| xm_lexit <| xm_here <| xn (a5.1, a5.2.1, a5.2.2) [0, 1, 2, 3, 4, 5, 6, 7]
 intro b5 ah
 refine sr <| vc 87 0 rfl rfl rfl <| v_ 88 (fun _ _ => op_nilCheck rfl) <| vf 89 0 0 rfl <| vf 90 4 4 rfl <| vc 91 1 rfl rfl rfl <| vn 92 ac rfl <| la 1 ((93, I _) :: _) rfl <| nn <| cm_block <| cm_loop (σ := (List ApiFinding) × Int) (ξ := Hdr) (fun a2 a3 => [(1, I p1), (2, .pointer (some ⟨a1, 0, none⟩)), (91, S m o q), (92, I (List.length p0.Bill.Items : Int)), (93, I a2.2)]) (fun a2 a3 => [blkE a1 72 [.pointer (some ⟨l, 0, none⟩)], blkE l 74 [I p0.Bill.ID, I p0.Bill.Household, I p0.Bill.When.From, I p0.Bill.When.To, S m o q, I p0.Bill.Total, S Q U X, S Y Z a0, S t C G, S y J K, S z L M, I p0.account_.Gap, S g i j, S d e f, .func (.func 58) #[] #[.pointer (some ⟨b, 0, none⟩)]], ownE 100 5 encApiItem g i j p0.base_, ownE 3 1 encI d e f p0.counted_, blkE b 70 [.pointer (some ⟨a, 0, none⟩)], blkE a 43 [S a3.1 a3.2.1 a3.2.2], ownE 64 3 encApiFinding a3.1 a3.2.1 a3.2.2 a2.1, packE w0.heap.size F]) (ah.1, ah.2.1, ah.2.2) ?_ ?_ ?_
 ·exact sq
 ·exact sh [0, 1, 2, 3, 4, 5, 6, 7]
 intro a2 a3
 refine sr <| la 1 ((94, B _) :: _) rfl <| nn <| cm_seq <| cc rfl (fun bv => ?_) (fun bv => ?_)
 ·refine sk <| cm_join (σ := (List ApiFinding)) (ξ := Hdr) (fun b9 aj => [(1, I p1), (2, .pointer (some ⟨a1, 0, none⟩)), (91, S m o q), (92, I (List.length p0.Bill.Items : Int)), (93, I a2.2)]) (fun b9 aj => [blkE a1 72 [.pointer (some ⟨l, 0, none⟩)], blkE l 74 [I p0.Bill.ID, I p0.Bill.Household, I p0.Bill.When.From, I p0.Bill.When.To, S m o q, I p0.Bill.Total, S Q U X, S Y Z a0, S t C G, S y J K, S z L M, I p0.account_.Gap, S g i j, S d e f, .func (.func 58) #[] #[.pointer (some ⟨b, 0, none⟩)]], ownE 100 5 encApiItem g i j p0.base_, ownE 3 1 encI d e f p0.counted_, blkE b 70 [.pointer (some ⟨a, 0, none⟩)], blkE a 43 [S aj.1 aj.2.1 aj.2.2], ownE 64 3 encApiFinding aj.1 aj.2.1 aj.2.2 b9, packE w0.heap.size F]) ?_ ?_
  ·refine cm_block <| sr <| la 1 ((95, I _) :: _) rfl <| lm_ck (fun bh => ?_)
   refine vi 96 5 ab ac bh rfl rfl <| vr 97 ab bh rfl <| al 10 [I 0, I 0, I 0, I 0, I 0] (v := .agg #[I 0, I 0, I 0, I 0, I 0]) rfl fun ba => la 1 ((9, I _) :: _) rfl <| sA 0 [I _, I _, I _, I _, I _] [_, _, _, _, _] (H' := [blkE _ _ [_, _, _, _, _], _, _, _, _, _, _, _, _]) rfl rfl rfl rfl rfl rfl <| nn <| cm_seq <| cm_seq <| cm_callIf fun bi bw => cm_cutE [(108, B ((decide ((ix p0.Bill.Items a2.2).Kind ≠ 2)) || (decide (bi ≠ a2.2))))] ?_ ?_
   ·refine qf 98 0 0 rfl <| qc 99 0 rfl rfl rfl <| qd 100 (fun _ _ => op_neq rfl rfl) (fun av => ?_) (fun av => ?_)
    ·exact qa 8 ((108, B true) :: uz 107 6 ((101, B true) :: _)) rfl <| lb 11 rfl (by rw [dt av] <;> rfl)
    ·exact qa 1 ((101, B false) :: _) rfl <| qc 102 1 rfl rfl rfl <| qf 103 1 1 rfl <| qc 104 0 rfl rfl rfl <| qk 105 (fun w1 c1 => m_audit_invoice_charges_ok N w1 (AuditInvoice.mk p0.Bill p0.account_ p0.base_ p0.counted_ ()) ((ix p0.Bill.Items a2.2).Ref) l m o q Q U X Y Z a0 t C G y J K z L M g i j d e f (.func (.func 58) #[] #[.pointer (some ⟨b, 0, none⟩)] : Value) (c1.blk 2 rfl) (ab.old c1) ac bi (bw (by rw [df av] <;> rfl))) <| qa 3 ((108, B _) :: (107, B _) :: (106, I _) :: _) rfl <| lb 11 rfl (by rw [df av] <;> rfl)
   refine xm_next <| cB rfl (fun bz => ?_) (fun bz => ?_)
   ·exact cm_exit <| xm_thenE <| xm_here <| xn (a3.1, a3.2.1, a3.2.2) [1, 2, 3, 4, 5, 6, 7, 8]
   ·refine sk <| sr <| vc 110 1 rfl rfl rfl <| vf 111 1 1 rfl <| vc 112 0 rfl rfl rfl <| lc 113 (fun r1 hr1 w1 c1 => m_audit_invoice_record_ok N w1 (AuditInvoice.mk p0.Bill p0.account_ p0.base_ p0.counted_ ()) ((ix p0.Bill.Items a2.2).Ref) l m o q Q U X Y Z a0 t C G y J K z L M g i j d e f (.func (.func 58) #[] #[.pointer (some ⟨b, 0, none⟩)] : Value) (c1.blk 2 rfl) (ax.old c1) ay (an.old c1) ar r1 hr1) fun bj ck => la 5 ((12, B _) :: (11, I _) :: (115, B _) :: (114, I _) :: (109, .tuple _) :: _) rfl <| nn <| cm_seq <| cm_callIf fun bk c0 => cm_callIf fun bl c3 => cm_cutE [(132, B ((bj.2 && (!bk)) && (!bl)))] ?_ ?_
    ·refine wq_bool 116 (by kernel_rfl) (fun w1 c1 => (op_move (v := B _) rfl)) (fun aq => ?_) (fun aq => ?_)
     ·refine qa 1 ((117, B true) :: _) rfl <| qc 118 1 rfl rfl rfl <| q_ 119 (fun _ _ => op_nilCheck rfl) <| qf 120 13 13 rfl <| qc 121 2 rfl rfl rfl <| qa 1 ((122, I _) :: _) rfl <| qkb 123 (fun w1 c1 => m_slices_Contains_73_ok N w1 p0.counted_ bj.1 d e f (c1.own 4 rfl encI_len) (c1.ownZ 4 rfl) bk (c0 (by rw [aq] <;> rfl))) (fun aw => ?_) (fun aw => ?_)
      ·exact qa 9 ((132, B false) :: uz 131 5 ((126, B false) :: (125, B false) :: (124, B false) :: _)) rfl <| lb 17 rfl (by rw [aq, aw] <;> rfl)
      ·exact qa 3 ((126, B true) :: (125, B true) :: (124, B true) :: _) rfl <| qc 127 1 rfl rfl rfl <| qf 128 1 1 rfl <| qc 129 0 rfl rfl rfl <| qk 130 (fun w1 c1 => m_audit_invoice_credited_ok N w1 (AuditInvoice.mk p0.Bill p0.account_ p0.base_ p0.counted_ ()) ((ix p0.Bill.Items a2.2).Ref) l m o q Q U X Y Z a0 t C G y J K z L M g i j d e f (.func (.func 58) #[] #[.pointer (some ⟨b, 0, none⟩)] : Value) (c1.blk 2 rfl) (ab.old c1) ac bl (c3 (by rw [aq, aw] <;> rfl))) <| qa 2 ((132, B _) :: (131, B _) :: _) rfl <| lb 17 rfl (by rw [aq, aw] <;> rfl)
     ·exact qa 16 ((132, B false) :: uz 131 5 ((126, B false) :: (125, B false) :: uz 124 7 ((117, B false) :: _))) rfl <| lb 17 rfl (by rw [aq] <;> rfl)
    refine xm_next <| cB rfl (fun c4 => ?_) (fun c4 => ?_)
    ·refine cm_bind fun bb c5 => cm_of_then <| cm_held (ξ := Hdr) (fun ak => [(1, I p1), (2, .pointer (some ⟨a1, 0, none⟩)), (91, S m o q), (92, I (List.length p0.Bill.Items : Int)), (93, I a2.2)]) (fun ak => [blkE a1 72 [.pointer (some ⟨l, 0, none⟩)], blkE l 74 [I p0.Bill.ID, I p0.Bill.Household, I p0.Bill.When.From, I p0.Bill.When.To, S m o q, I p0.Bill.Total, S Q U X, S Y Z a0, S t C G, S y J K, S z L M, I p0.account_.Gap, S g i j, S d e f, .func (.func 58) #[] #[.pointer (some ⟨b, 0, none⟩)]], ownE 100 5 encApiItem g i j p0.base_, ownE 3 1 encI d e f p0.counted_, blkE b 70 [.pointer (some ⟨a, 0, none⟩)], blkE a 43 [S ak.1 ak.2.1 ak.2.2], ownE 64 3 encApiFinding ak.1 ak.2.1 ak.2.2 (a2.1 ++ ([(ApiFinding.mk (13 : Int) p1 ((ix p0.Bill.Items a2.2).Ref))])), packE w0.heap.size F]) [blkE ba 100 [I ((ix p0.Bill.Items a2.2).Kind), I ((ix p0.Bill.Items a2.2).Ref), I ((ix p0.Bill.Items a2.2).Count), I ((ix p0.Bill.Items a2.2).Price), I ((ix p0.Bill.Items a2.2).Amount)], blkE a1 72 [.pointer (some ⟨l, 0, none⟩)], blkE l 74 [I p0.Bill.ID, I p0.Bill.Household, I p0.Bill.When.From, I p0.Bill.When.To, S m o q, I p0.Bill.Total, S Q U X, S Y Z a0, S t C G, S y J K, S z L M, I p0.account_.Gap, S g i j, S d e f, .func (.func 58) #[] #[.pointer (some ⟨b, 0, none⟩)]], ownE 100 5 encApiItem g i j p0.base_, ownE 3 1 encI d e f p0.counted_, packE w0.heap.size F] 8 (by kernel_rfl) (by rfl) (hsub [0, 1, 2, 3, 4, 8] (by kernel_rfl) (by rfl)) ?_ ?_
     ·intro cl am
      refine wt 0 133 rfl (fun w2 c2 => oL (c2.cell 1 (u := .pointer (some ⟨_, _, _⟩)) rfl rfl)) (hs [0, 1, 2, 3, 4, 8] am) <| wt 1 134 rfl (fun w2 c2 => (op_nilCheck rfl)) (hs [0, 1, 2, 3, 4, 8] am) <| wt 2 135 rfl (fun _ _ => oF 14 14 rfl) (hs [0, 1, 2, 3, 4, 8] am) <| wt 3 136 rfl (fun w2 c2 => oL (c2.cell 2 (u := .func _ _ _) rfl rfl)) (hs [0, 1, 2, 3, 4, 8] am) <| wt 4 137 rfl (fun w2 c2 => (op_move (v := I _) rfl)) (hs [0, 1, 2, 3, 4, 8] am) <| wt 5 138 rfl (fun _ _ => oF 1 1 rfl) (hs [0, 1, 2, 3, 4, 8] am) <| wt 6 139 rfl (fun w2 c2 => oL (c2.cell 0 (u := I _) rfl rfl)) (hs [0, 1, 2, 3, 4, 8] am) <| wh_ready [7] (by kernel_rfl) rfl ⟨?_, trivial⟩
      refine ws_callH 140 (V := fun (u : Hdr) => (fun (_r : Unit) (_u : Hdr) => (.tuple #[] : Value)) bb u) [blkE b 70 [.pointer (some ⟨a, 0, none⟩)], blkE a 43 [S a3.1 a3.2.1 a3.2.2], ownE 64 3 encApiFinding a3.1 a3.2.1 a3.2.2 a2.1] [blkE ba 100 [I ((ix p0.Bill.Items a2.2).Kind), I ((ix p0.Bill.Items a2.2).Ref), I ((ix p0.Bill.Items a2.2).Count), I ((ix p0.Bill.Items a2.2).Price), I ((ix p0.Bill.Items a2.2).Amount)], blkE a1 72 [.pointer (some ⟨l, 0, none⟩)], blkE l 74 [I p0.Bill.ID, I p0.Bill.Household, I p0.Bill.When.From, I p0.Bill.When.To, S m o q, I p0.Bill.Total, S Q U X, S Y Z a0, S t C G, S y J K, S z L M, I p0.account_.Gap, S g i j, S d e f, .func (.func 58) #[] #[.pointer (some ⟨b, 0, none⟩)]], ownE 100 5 encApiItem g i j p0.base_, ownE 3 1 encI d e f p0.counted_, packE w0.heap.size F] (O := fun (u : Hdr) => (fun (_r : Unit) (u : Hdr) => [blkE b 70 [.pointer (some ⟨a, 0, none⟩)], blkE a 43 [S u.1 u.2.1 u.2.2], ownE 64 3 encApiFinding u.1 u.2.1 u.2.2 (a2.1 ++ ([(ApiFinding.mk (13 : Int) p1 ((ix p0.Bill.Items a2.2).Ref))]))]) bb u) (sh [5, 6, 7, 0, 1, 2, 3, 4, 8]) rfl (by kernel_rfl) (op_callv rfl (by kernel_rfl)) am (fun c1 => m_audit_collector_1_ok N w0 _ [blkE ba 100 [I ((ix p0.Bill.Items a2.2).Kind), I ((ix p0.Bill.Items a2.2).Ref), I ((ix p0.Bill.Items a2.2).Count), I ((ix p0.Bill.Items a2.2).Price), I ((ix p0.Bill.Items a2.2).Amount)], blkE a1 72 [.pointer (some ⟨l, 0, none⟩)], blkE l 74 [I p0.Bill.ID, I p0.Bill.Household, I p0.Bill.When.From, I p0.Bill.When.To, S m o q, I p0.Bill.Total, S Q U X, S Y Z a0, S t C G, S y J K, S z L M, I p0.account_.Gap, S g i j, S d e f, .func (.func 58) #[] #[.pointer (some ⟨b, 0, none⟩)]], ownE 100 5 encApiItem g i j p0.base_, ownE 3 1 encI d e f p0.counted_, packE w0.heap.size F] (13 : Int) p1 ((ix p0.Bill.Items a2.2).Ref) () a2.1 b a a3.1 a3.2.1 a3.2.2  c1 bb c5) fun bc cm bm => ⟨(hs [3, 4, 5, 6, 7, 8] bm), ?_⟩
      exact wh_done (bc.1, bc.2.1, bc.2.2) (by kernel_rfl) sq (hs [4, 5, 6, 7, 0, 1, 2, 8] bm)
     intro ak
     exact xm_of_then <| xm_inN <| xn (ak.1, ak.2.1, ak.2.2) [0, 1, 2, 3, 4, 5, 6, 7]
    ·exact cm_skip <| xm_inN <| xn (a3.1, a3.2.1, a3.2.2) [1, 2, 3, 4, 5, 6, 7, 8]
  intro b9 aj
  refine cm_region <| lm_ck (fun c6 => ?_)
  exact va 141 c6 rfl rfl <| la 1 ((93, I _) :: _) rfl <| lm_nil <| xn (aj.1, aj.2.1, aj.2.2) [0, 1, 2, 3, 4, 5, 6, 7]
 ·exact cm_exit <| xm_thenE <| xm_lexit <| xm_here <| xm_normR <| xm_ret rfl  fun w1 c1 => ⟨(a3.1, a3.2.1, a3.2.2), rfl, hs [1, 2, 3, 4, 5, 6, 7] c1⟩
/-- audit.Bills -/
def m_audit_Bills (N : Nat) (p0 : ApiBooks) : Option ((List ApiFinding) × Int) :=
 callIf ((!(decide (512 < (List.length p0.Bills : Int)))) = true) (m_slices_ContainsFunc_audit_Bills_1 N p0.Bills) fun r6 => (if ((decide (512 < (List.length p0.Bills : Int))) || r6) = true then
  some ((([] : List ApiFinding), (8 : Int)))
 else
  Option.bind (m_bill_Check N p0.Account) fun o => (if o ≠ 0 then
   some ((([] : List ApiFinding), o))
  else
   Option.bind (m_audit_collector N ([] : List ApiFinding)) fun t => (andThen
    (loopM (fun (a : (List ApiFinding) × Int) =>
     (if a.2 < (List.length p0.Bills : Int) then
      (andThen
       (ck (0 ≤ a.2 ∧ a.2 < (List.length p0.Bills : Int)) (
        Option.bind (m_audit_valid N p0.Account (ix p0.Bills a.2)) fun e => (if (!e) = true then
         Option.bind (m_audit_collector_1 N (11 : Int) a.2 (-1 : Int) () a.1) fun _v => some (.next (a.1 ++ ([(ApiFinding.mk (11 : Int) a.2 (-1 : Int))])))
        else
         Option.bind (m_tariff_Base N p0.Account.Tariffs ((ix p0.Bills a.2).When)) fun d => Option.bind (m_audit_invoice_moments N (AuditInvoice.mk (ix p0.Bills a.2) p0.Account d.1 ([] : List Int) ())) fun f => Option.bind (m_emptying_Of N p0.Account.Emptyings p0.Account.Assigns ((ix p0.Bills a.2).Household) f p0.Account.Gap) fun g => Option.bind (m_audit_invoice_items N (AuditInvoice.mk (ix p0.Bills a.2) p0.Account d.1 g.1 ()) () a.1 a.2) fun i => ck (0 ≤ a.2 ∧ a.2 ≤ (List.length p0.Bills : Int)) (
          (loopM (fun (b : (List ApiFinding) × Int) =>
           (if b.2 < (List.length (List.take (Int.toNat a.2) p0.Bills) : Int) then
            (andThen
             (ck (0 ≤ b.2 ∧ b.2 < (List.length (List.take (Int.toNat a.2) p0.Bills) : Int)) (
              Option.bind (m_audit_valid N p0.Account (ix (List.take (Int.toNat a.2) p0.Bills) b.2)) fun j => (if ((j && (decide ((ix (List.take (Int.toNat a.2) p0.Bills) b.2).Household = (ix p0.Bills a.2).Household))) && (decide ((max ((ix p0.Bills a.2).When.From) ((ix (List.take (Int.toNat a.2) p0.Bills) b.2).When.From)) < (min ((ix p0.Bills a.2).When.To) ((ix (List.take (Int.toNat a.2) p0.Bills) b.2).When.To))))) = true then
               Option.bind (m_audit_collector_1 N (14 : Int) a.2 b.2 () b.1) fun _x => some (.next (b.1 ++ ([(ApiFinding.mk (14 : Int) a.2 b.2)])))
              else
               some (.next b.1))))
            fun (l : (List ApiFinding)) =>
             ck (I64 (b.2 + 1)) (
              some (.next (l, (b.2 + 1)))))
           else
            some (.done (.next b.1)))) N (i, (0 : Int)))))))
      fun (m : (List ApiFinding)) =>
       ck (I64 (a.2 + 1)) (
        some (.next (m, (a.2 + 1)))))
     else
      some (.done (.next a.1)))) N (t, (0 : Int)))
   fun (q : (List ApiFinding)) =>
    some ((q, (0 : Int))))))
set_option maxHeartbeats 2000000 in
set_option maxRecDepth 20000 in
theorem m_audit_Bills_ok (N : Nat) (w0 : World) (p0 : ApiBooks) (t : Ad) (U X : Nat) (y : Ad) (Y Z : Nat) (m : Ad) (C G : Nat) (o : Ad) (J K : Nat) (q : Ad) (L M : Nat) (ai : Ad) (aj ak : Nat) (am : Ad) (an ao : Nat) (_ci : Int → Hdr) (aq : Ad) (ar au : Nat) (av : Ad) (aw ax : Nat) (a3 : Ad) (a4 a5 : Nat) (a6 : Ad) (a7 a8 : Nat) (a9 : Ad) (aa ab : Nat) (ac : Ad) (ad ae : Nat) (f : Ad) (Q g : Nat) (b : Int → Hdr) (af : Ad) (ag ah : Nat) (_ch : Int → Hdr) (c4 : RdE w0 2 encApiHousehold t p0.Account.Households) (bi : SW t U X (List.length p0.Account.Households)) (c5 : RdE w0 5 encApiContainer y p0.Account.Containers) (c6 : SW y Y Z (List.length p0.Account.Containers)) (bj : RdE w0 4 encApiAssign m p0.Account.Assigns) (bk : SW m C G (List.length p0.Account.Assigns)) (bl : RdE w0 7 encApiEmptying o p0.Account.Emptyings) (bm : SW o J K (List.length p0.Account.Emptyings)) (bn : RdE w0 5 encApiTariff q p0.Account.Tariffs) (bo : SW q L M (List.length p0.Account.Tariffs)) (ba : RdI w0 6 (fun (i : Int) (x : ApiBill) => encApiBill x (b i)) f p0.Bills) (b6 : SW f Q g (List.length p0.Bills)) (bb : ∀ i : Int, 0 ≤ i ∧ i < (List.length p0.Bills : Int) → RdE w0 5 encApiItem (b i).1 (ix p0.Bills i).Items ∧ SW (b i).1 (b i).2.1 (b i).2.2 (List.length (ix p0.Bills i).Items)) (r : (List ApiFinding) × Int) (hr : m_audit_Bills N p0 = some r) :
  Ret Tryz.prog 9 [.agg #[I p0.Now, S t U X, S y Y Z, S m C G, S o J K, S q L M, I p0.Account.Gap, S ai aj ak, I p0.Inside, I p0.Bins, S am an ao, S aq ar au, S av aw ax, S a3 a4 a5, S a6 a7 a8, S a9 aa ab, S ac ad ae, S f Q g, S af ag ah]] w0 (fun (r : (List ApiFinding) × Int) (u : Hdr) => .tuple #[S u.1 u.2.1 u.2.2, I r.2]) (fun (r : (List ApiFinding) × Int) (u : Hdr) => [ownE 64 3 encApiFinding u.1 u.2.1 u.2.2 r.1]) r := by
 refine calls_v (n := 130) r hr Tryz.func9 ?_
 unfold m_audit_Bills
 refine sr <| bx 1 [I _, S _ _ _, S _ _ _, S _ _ _, S _ _ _, S _ _ _, I _, S _ _ _, I _, I _, S _ _ _, S _ _ _, S _ _ _, S _ _ _, S _ _ _, S _ _ _, S _ _ _, S _ _ _, S _ _ _] rfl fun b5 => la 2 ((3, I _) :: (2, S _ _ _) :: _) rfl <| nn <| cm_seq <| cm_seq <| cm_callIf fun r6 h7 => cm_cutE [(20, B ((decide (512 < (List.length p0.Bills : Int))) || r6))] ?_ ?_
 ·refine qf 12 17 17 rfl <| qc 13 0 rfl rfl rfl <| qn 14 b6 rfl <| qd 15 (fun _ _ => op_gtr rfl rfl) (fun h8 => ?_) (fun h8 => ?_)
  ·exact qa 5 ((20, B true) :: uz 19 3 ((16, B true) :: _)) rfl <| lb 9 rfl (by rw [dt h8] <;> rfl)
  ·exact qa 1 ((16, B false) :: _) rfl <| qf 17 17 17 rfl <| qc 18 0 rfl rfl rfl <| qk 19 (fun w1 c1 => m_slices_ContainsFunc_audit_Bills_1_ok N w1 p0.Bills f Q g b (ba.old c1) b6 (fun i hi => ⟨(bb i hi).1.old c1, (bb i hi).2⟩) r6 (h7 (by rw [df h8] <;> rfl))) <| qa 1 ((20, B _) :: _) rfl <| lb 9 rfl (by rw [df h8] <;> rfl)
 refine xm_next <| cB rfl (fun h9 => ?_) (fun h9 => ?_)
 ·exact sr <| la 2 ((3, I _) :: (2, S _ _ _) :: _) rfl <| nn <| cm_ret <| xm_thenR <| xm_nilrow 64 3 encApiFinding <| xrr [0] (none, 0, 0)
 ·refine sk <| cm_seq <| sr <| vf 21 1 1 rfl <| vR 22 [S _ _ _, S _ _ _, S _ _ _, S _ _ _, S _ _ _, I _] 0 rfl rfl rfl <| lc 23 (fun r1 hr1 w1 c1 => m_bill_Check_ok N w1 p0.Account t U X y Y Z m C G o J K q L M (c4.old c1) bi (c5.old c1) c6 (bj.old c1) bk (bl.old c1) bm (bn.old c1) bo r1 hr1) fun cv cw => la 1 ((4, I _) :: _) rfl <| nn <| sr <| la 2 ((25, B _) :: (24, I _) :: _) rfl <| nn <| cc rfl (fun cj => ?_) (fun cj => ?_)
  ·exact sr <| la 3 ((3, I _) :: (2, S _ _ _) :: (26, I _) :: _) rfl <| nn <| cm_ret <| xm_thenR <| xm_nilrow 64 3 encApiFinding <| xrr [0] (none, 0, 0)
  ·refine sk <| sr <| al 5 [S none 0 0] (v := S none 0 0) rfl fun a0 => nn <| sr <| lm_nilrow 64 3 encApiFinding <| lm_callH 27 (V := (fun (_r : (List ApiFinding)) (u : Nat) => (.func (.func 58) #[] #[.pointer (some ⟨u, 0, none⟩)] : Value))) [blkE a0 43 [S none 0 0], ownE 64 3 encApiFinding none 0 0 ([] : List ApiFinding)] [blkE b5 40 [I p0.Now, S t U X, S y Y Z, S m C G, S o J K, S q L M, I p0.Account.Gap, S ai aj ak, I p0.Inside, I p0.Bins, S am an ao, S aq ar au, S av aw ax, S a3 a4 a5, S a6 a7 a8, S a9 aa ab, S ac ad ae, S f Q g, S af ag ah]] (O := (fun (r : (List ApiFinding)) (u : Nat) => [blkE u 70 [.pointer (some ⟨a0, 0, none⟩)], blkE a0 43 [S none 0 0], ownE 64 3 encApiFinding none 0 0 r])) (sh [1, 0, 2]) (by kernel_rfl) (fun w1 => op_call (by kernel_rfl)) (fun r1 hr1 w1 c1 => m_audit_collector_ok N w0 w1 [blkE b5 40 [I p0.Now, S t U X, S y Y Z, S m C G, S o J K, S q L M, I p0.Account.Gap, S ai aj ak, I p0.Inside, I p0.Bins, S am an ao, S aq ar au, S av aw ax, S a3 a4 a5, S a6 a7 a8, S a9 aa ab, S ac ad ae, S f Q g, S af ag ah]] ([] : List ApiFinding) a0 none 0 0  c1 r1 hr1) fun cx ay => la 1 ((6, .func _ _ _) :: _) rfl <| nn <| cm_join (σ := (List ApiFinding)) (ξ := Hdr) (fun bv b9 => [(5, .pointer (some ⟨a0, 0, none⟩))]) (fun bv b9 => [blkE a0 43 [S b9.1 b9.2.1 b9.2.2], ownE 64 3 encApiFinding b9.1 b9.2.1 b9.2.2 bv]) ?_ ?_
   ·refine sr <| vf 28 17 17 rfl <| vc 29 3 rfl rfl rfl <| vn 30 b6 rfl <| la 1 ((31, I _) :: _) rfl <| nn <| cm_block <| cm_loop (σ := (List ApiFinding) × Int) (ξ := Hdr) (fun a d => [(1, .pointer (some ⟨b5, 0, none⟩)), (5, .pointer (some ⟨a0, 0, none⟩)), (6, .func (.func 58) #[] #[.pointer (some ⟨ay, 0, none⟩)]), (29, S f Q g), (30, I (List.length p0.Bills : Int)), (31, I a.2)]) (fun a d => [blkE b5 40 [I p0.Now, S t U X, S y Y Z, S m C G, S o J K, S q L M, I p0.Account.Gap, S ai aj ak, I p0.Inside, I p0.Bins, S am an ao, S aq ar au, S av aw ax, S a3 a4 a5, S a6 a7 a8, S a9 aa ab, S ac ad ae, S f Q g, S af ag ah], blkE a0 43 [S d.1 d.2.1 d.2.2], ownE 64 3 encApiFinding d.1 d.2.1 d.2.2 a.1, blkE ay 70 [.pointer (some ⟨a0, 0, none⟩)]]) (none, 0, 0) ?_ ?_ ?_
    ·exact sq
    ·exact sh [3, 1, 2, 0]
    intro a d
    refine sr <| la 1 ((32, B _) :: _) rfl <| nn <| cm_seq <| cc rfl (fun c7 => ?_) (fun c7 => ?_)
    ·refine sk <| cm_join (σ := (List ApiFinding)) (ξ := Hdr) (fun bp b3 => [(1, .pointer (some ⟨b5, 0, none⟩)), (5, .pointer (some ⟨a0, 0, none⟩)), (6, .func (.func 58) #[] #[.pointer (some ⟨ay, 0, none⟩)]), (29, S f Q g), (30, I (List.length p0.Bills : Int)), (31, I a.2)]) (fun bp b3 => [blkE b5 40 [I p0.Now, S t U X, S y Y Z, S m C G, S o J K, S q L M, I p0.Account.Gap, S ai aj ak, I p0.Inside, I p0.Bins, S am an ao, S aq ar au, S av aw ax, S a3 a4 a5, S a6 a7 a8, S a9 aa ab, S ac ad ae, S f Q g, S af ag ah], blkE a0 43 [S b3.1 b3.2.1 b3.2.2], ownE 64 3 encApiFinding b3.1 b3.2.1 b3.2.2 bp, blkE ay 70 [.pointer (some ⟨a0, 0, none⟩)]]) ?_ ?_
     ·refine cm_block <| sr <| la 1 ((33, I _) :: _) rfl <| lm_ck (fun bc => ?_)
      refine v_ 34 (fun _ c1 => oI 6 rfl rfl ((ba.old c1).addr bc.1 bc.2) b6.2.2 bc) <| v_ 35 (fun _ c1 => oR [I ((ix p0.Bills a.2).ID), I ((ix p0.Bills a.2).Household), I ((ix p0.Bills a.2).When.From), I ((ix p0.Bills a.2).When.To), S ((b a.2).1) ((b a.2).2.1) ((b a.2).2.2), I ((ix p0.Bills a.2).Total)] ((ba.old c1).row bc.1 bc.2)) <| al 8 [I 0, I 0, I 0, I 0, S none 0 0, I 0] (v := .agg #[I 0, I 0, I 0, I 0, S none 0 0, I 0]) rfl fun b0 => la 1 ((7, I _) :: _) rfl <| sA 0 [I _, I _, I _, I _, S _ _ _, I _] [_, _, _, _, _, _] (H' := [blkE _ _ [_, _, _, _, _, _], _, _, _, _]) rfl rfl rfl rfl rfl rfl <| nn <| cm_seq <| sr <| vf 36 1 1 rfl <| vR 37 [S _ _ _, S _ _ _, S _ _ _, S _ _ _, S _ _ _, I _] 1 rfl rfl rfl <| vR 38 [I _, I _, I _, I _, S _ _ _, I _] 0 rfl rfl rfl <| lc 39 (fun r1 hr1 w1 c1 => m_audit_valid_ok N w1 p0.Account (ix p0.Bills a.2) t U X y Y Z m C G o J K q L M ((b a.2).1) ((b a.2).2.1) ((b a.2).2.2) bi r1 hr1) fun ck cl => la 1 ((40, B _) :: _) rfl <| nn <| cB rfl (fun c8 => ?_) (fun c8 => ?_)
      ·exact sr <| la 2 ((42, I _) :: (41, .func _ _ _) :: _) rfl <| lm_callH 43 (V := (fun (_r : Unit) (_u : Hdr) => (.tuple #[] : Value))) [blkE ay 70 [.pointer (some ⟨a0, 0, none⟩)], blkE a0 43 [S d.1 d.2.1 d.2.2], ownE 64 3 encApiFinding d.1 d.2.1 d.2.2 a.1] [blkE b0 52 [I ((ix p0.Bills a.2).ID), I ((ix p0.Bills a.2).Household), I ((ix p0.Bills a.2).When.From), I ((ix p0.Bills a.2).When.To), S ((b a.2).1) ((b a.2).2.1) ((b a.2).2.2), I ((ix p0.Bills a.2).Total)], blkE b5 40 [I p0.Now, S t U X, S y Y Z, S m C G, S o J K, S q L M, I p0.Account.Gap, S ai aj ak, I p0.Inside, I p0.Bins, S am an ao, S aq ar au, S av aw ax, S a3 a4 a5, S a6 a7 a8, S a9 aa ab, S ac ad ae, S f Q g, S af ag ah]] (O := (fun (_r : Unit) (u : Hdr) => [blkE ay 70 [.pointer (some ⟨a0, 0, none⟩)], blkE a0 43 [S u.1 u.2.1 u.2.2], ownE 64 3 encApiFinding u.1 u.2.1 u.2.2 (a.1 ++ ([(ApiFinding.mk (11 : Int) a.2 (-1 : Int))]))])) (sh [4, 2, 3, 0, 1]) (by kernel_rfl) (fun w1 => op_callv rfl (by kernel_rfl)) (fun r1 hr1 w1 c1 => m_audit_collector_1_ok N w0 w1 [blkE b0 52 [I ((ix p0.Bills a.2).ID), I ((ix p0.Bills a.2).Household), I ((ix p0.Bills a.2).When.From), I ((ix p0.Bills a.2).When.To), S ((b a.2).1) ((b a.2).2.1) ((b a.2).2.2), I ((ix p0.Bills a.2).Total)], blkE b5 40 [I p0.Now, S t U X, S y Y Z, S m C G, S o J K, S q L M, I p0.Account.Gap, S ai aj ak, I p0.Inside, I p0.Bins, S am an ao, S aq ar au, S av aw ax, S a3 a4 a5, S a6 a7 a8, S a9 aa ab, S ac ad ae, S f Q g, S af ag ah]] (11 : Int) a.2 (-1 : Int) () a.1 ay a0 d.1 d.2.1 d.2.2  c1 r1 hr1) fun cm bq => nn <| cm_exit <| xm_thenE <| xm_here <| xn (bq.1, bq.2.1, bq.2.2) [4, 1, 2, 0]
      ·refine sk <| sr <| vR 44 [I _, I _, I _, I _, S _ _ _, I _] 0 rfl rfl rfl <| vf 45 1 1 rfl <| vR 46 [S _ _ _, S _ _ _, S _ _ _, S _ _ _, S _ _ _, I _] 1 rfl rfl rfl <| la 1 ((47, .func _ _ _) :: _) rfl <| v_ 48 (fun _ _ => op_build (z := [I 0, I 0, I 0, I 0, S none 0 0, I 0, S none 0 0, S none 0 0, S none 0 0, S none 0 0, S none 0 0, I 0, S none 0 0, S none 0 0, .nilFunc]) (tab := [(0, 6), (6, 6), (12, 1), (13, 1), (14, 1)]) (cs := [I ((ix p0.Bills a.2).ID), I ((ix p0.Bills a.2).Household), I ((ix p0.Bills a.2).When.From), I ((ix p0.Bills a.2).When.To), S ((b a.2).1) ((b a.2).2.1) ((b a.2).2.2), I ((ix p0.Bills a.2).Total), S t U X, S y Y Z, S m C G, S o J K, S q L M, I p0.Account.Gap, S none 0 0, S none 0 0, .func (.func 58) #[] #[.pointer (some ⟨ay, 0, none⟩)]]) [(0, [I ((ix p0.Bills a.2).ID), I ((ix p0.Bills a.2).Household), I ((ix p0.Bills a.2).When.From), I ((ix p0.Bills a.2).When.To), S ((b a.2).1) ((b a.2).2.1) ((b a.2).2.2), I ((ix p0.Bills a.2).Total)]), (6, [S t U X, S y Y Z, S m C G, S o J K, S q L M, I p0.Account.Gap]), (14, [.func (.func 58) #[] #[.pointer (some ⟨ay, 0, none⟩)]])] (by kernel_rfl) (by kernel_rfl) (fillOk_cons rfl rfl rfl (fillOk_cons rfl rfl rfl (fillOk_cons rfl rfl rfl fillOk_nil))) rfl) <| bx 49 [I _, I _, I _, I _, S _ _ _, I _, S _ _ _, S _ _ _, S _ _ _, S _ _ _, S _ _ _, I _, S _ _ _, S _ _ _, .func _ _ _] rfl fun bd => la 1 ((9, .pointer (some ⟨_, _, _⟩)) :: _) rfl <| nn <| sr <| la 1 ((51, .pointer (some ⟨_, _, _⟩)) :: _) rfl <| vf 52 1 1 rfl <| vf 53 4 5 rfl <| vc 54 2 rfl rfl rfl <| vf 55 2 2 rfl <| vR 56 [I _, I _] 1 rfl rfl rfl <| lc 57 (fun r1 hr1 w1 c1 => m_tariff_Base_ok N w1 p0.Account.Tariffs ((ix p0.Bills a.2).When) q L M (bn.old c1) bo r1 hr1) fun b1 j => la 3 ((59, I _) :: (58, S _ _ _) :: (50, .tuple _) :: _) rfl <| v_ 60 (fun _ _ => op_nilCheck rfl) <| vf 61 12 12 rfl <| lm_store1 1 (v := S _ _ _) (H' := [_, blkE _ _ [_, _, _, _, _, _, _, _, _, _, _, _, _, _, _], _, _, _, _, _]) (by kernel_rfl) rfl rfl (by kernel_rfl) rfl rfl (by kernel_rfl) rfl <| nn <| cm_seq <| cm_bind fun bw c9 => cm_bind fun b2 ca => cm_held (ξ := Hdr) (fun a1 => [(1, .pointer (some ⟨b5, 0, none⟩)), (5, .pointer (some ⟨a0, 0, none⟩)), (6, .func (.func 58) #[] #[.pointer (some ⟨ay, 0, none⟩)]), (7, I a.2), (8, .pointer (some ⟨b0, 0, none⟩)), (9, .pointer (some ⟨bd, 0, none⟩)), (29, S f Q g), (30, I (List.length p0.Bills : Int)), (31, I a.2)]) (fun a1 => [blkE b5 40 [I p0.Now, S t U X, S y Y Z, S m C G, S o J K, S q L M, I p0.Account.Gap, S ai aj ak, I p0.Inside, I p0.Bins, S am an ao, S aq ar au, S av aw ax, S a3 a4 a5, S a6 a7 a8, S a9 aa ab, S ac ad ae, S f Q g, S af ag ah], blkE a0 43 [S d.1 d.2.1 d.2.2], ownE 64 3 encApiFinding d.1 d.2.1 d.2.2 a.1, blkE ay 70 [.pointer (some ⟨a0, 0, none⟩)], blkE b0 52 [I ((ix p0.Bills a.2).ID), I ((ix p0.Bills a.2).Household), I ((ix p0.Bills a.2).When.From), I ((ix p0.Bills a.2).When.To), S ((b a.2).1) ((b a.2).2.1) ((b a.2).2.2), I ((ix p0.Bills a.2).Total)], blkE bd 74 [I ((ix p0.Bills a.2).ID), I ((ix p0.Bills a.2).Household), I ((ix p0.Bills a.2).When.From), I ((ix p0.Bills a.2).When.To), S ((b a.2).1) ((b a.2).2.1) ((b a.2).2.2), I ((ix p0.Bills a.2).Total), S t U X, S y Y Z, S m C G, S o J K, S q L M, I p0.Account.Gap, S j.1 j.2.1 j.2.2, S a1.1 a1.2.1 a1.2.2, .func (.func 58) #[] #[.pointer (some ⟨ay, 0, none⟩)]], ownE 100 5 encApiItem j.1 j.2.1 j.2.2 b1.1, ownE 3 1 encI a1.1 a1.2.1 a1.2.2 b2.1]) [ownE 100 5 encApiItem j.1 j.2.1 j.2.2 b1.1, blkE b0 52 [I ((ix p0.Bills a.2).ID), I ((ix p0.Bills a.2).Household), I ((ix p0.Bills a.2).When.From), I ((ix p0.Bills a.2).When.To), S ((b a.2).1) ((b a.2).2.1) ((b a.2).2.2), I ((ix p0.Bills a.2).Total)], blkE b5 40 [I p0.Now, S t U X, S y Y Z, S m C G, S o J K, S q L M, I p0.Account.Gap, S ai aj ak, I p0.Inside, I p0.Bins, S am an ao, S aq ar au, S av aw ax, S a3 a4 a5, S a6 a7 a8, S a9 aa ab, S ac ad ae, S f Q g, S af ag ah], blkE a0 43 [S d.1 d.2.1 d.2.2], ownE 64 3 encApiFinding d.1 d.2.1 d.2.2 a.1, blkE ay 70 [.pointer (some ⟨a0, 0, none⟩)]] 21 (by kernel_rfl) (by rfl) (hsub [0, 2, 3, 4, 5, 6] (by kernel_rfl) (by rfl)) ?_ ?_
       ·intro cn az
        refine wt 0 63 rfl (fun w2 c2 => (op_move (v := .pointer (some ⟨_, _, _⟩)) rfl)) (hs [0, 2, 3, 4, 5, 6] az) <| wt 1 64 rfl (fun _ _ => oF 1 1 rfl) (hs [0, 2, 3, 4, 5, 6] az) <| wt 2 65 rfl (fun _ _ => oF 3 4 rfl) (hs [0, 2, 3, 4, 5, 6] az) <| wt 3 66 rfl (fun w2 c2 => oL (c2.cell 2 (u := S _ _ _) rfl rfl)) (hs [0, 2, 3, 4, 5, 6] az) <| wt 4 67 rfl (fun _ _ => oF 1 1 rfl) (hs [0, 2, 3, 4, 5, 6] az) <| wt 5 68 rfl (fun _ _ => oF 2 3 rfl) (hs [0, 2, 3, 4, 5, 6] az) <| wt 6 69 rfl (fun w2 c2 => oL (c2.cell 2 (u := S _ _ _) rfl rfl)) (hs [0, 2, 3, 4, 5, 6] az) <| wt 7 70 rfl (fun _ _ => oF 1 1 rfl) (hs [0, 2, 3, 4, 5, 6] az) <| wt 8 71 rfl (fun w2 c2 => oL (c2.cell 1 (u := I _) rfl rfl)) (hs [0, 2, 3, 4, 5, 6] az) <| wt 9 72 rfl (fun w2 c2 => (op_move (v := .pointer (some ⟨_, _, _⟩)) rfl)) (hs [0, 2, 3, 4, 5, 6] az) <| wt 11 74 rfl (fun _ _ => oF 1 1 rfl) (hs [0, 2, 3, 4, 5, 6] az) <| wt 12 75 rfl (fun _ _ => oF 5 6 rfl) (hs [0, 2, 3, 4, 5, 6] az) <| wt 13 76 rfl (fun w2 c2 => oL (c2.cell 2 (u := I _) rfl rfl)) (hs [0, 2, 3, 4, 5, 6] az) <| wh_ready [10] (by kernel_rfl) rfl ⟨?_, trivial⟩
        refine ws_call 73 rfl (by kernel_rfl) (op_call (by kernel_rfl)) (m_audit_invoice_moments_ok N _ (AuditInvoice.mk (ix p0.Bills a.2) p0.Account b1.1 ([] : List Int) ()) bd ((b a.2).1) ((b a.2).2.1) ((b a.2).2.2) t U X y Y Z m C G o J K q L M j.1 j.2.1 j.2.2 none 0 0 (.func (.func 58) #[] #[.pointer (some ⟨ay, 0, none⟩)] : Value) (az.blk 1 rfl) bw c9) ?_
        rintro x co ⟨cp, rfl, be⟩
        replace be := az.call be
        refine ⟨_, rfl, (hs [0, 2, 3, 4, 5, 6] be), ?_⟩
        refine wh_ready [14] (by kernel_rfl) rfl ⟨?_, trivial⟩
        refine ws_call 77 rfl (by kernel_rfl) (op_call (by kernel_rfl)) (m_emptying_Of_ok N _ p0.Account.Emptyings p0.Account.Assigns ((ix p0.Bills a.2).Household) bw p0.Account.Gap o J K m C G (bl.old be) bm (bj.old be) bk b2 ca) ?_
        rintro x cq ⟨bf, rfl, b8⟩
        replace b8 := be.call b8
        refine ⟨_, rfl, (hs [1, 3, 4, 5, 6, 7] b8), ?_⟩
        refine wh_strong (Hs w0 [ownE 3 1 encI bf.1 bf.2.1 bf.2.2 b2.1, ownE 100 5 encApiItem j.1 j.2.1 j.2.2 b1.1, blkE b0 52 [I ((ix p0.Bills a.2).ID), I ((ix p0.Bills a.2).Household), I ((ix p0.Bills a.2).When.From), I ((ix p0.Bills a.2).When.To), S ((b a.2).1) ((b a.2).2.1) ((b a.2).2.2), I ((ix p0.Bills a.2).Total)], blkE b5 40 [I p0.Now, S t U X, S y Y Z, S m C G, S o J K, S q L M, I p0.Account.Gap, S ai aj ak, I p0.Inside, I p0.Bins, S am an ao, S aq ar au, S av aw ax, S a3 a4 a5, S a6 a7 a8, S a9 aa ab, S ac ad ae, S f Q g, S af ag ah], blkE a0 43 [S d.1 d.2.1 d.2.2], ownE 64 3 encApiFinding d.1 d.2.1 d.2.2 a.1, blkE ay 70 [.pointer (some ⟨a0, 0, none⟩)]]) (fun w2 c2 => hs [1, 2, 3, 4, 5, 6] c2) <| wt 15 62 rfl (fun w2 c2 => (op_move (v := .tuple _) rfl)) (hs [0, 1, 3, 4, 5, 6, 7] b8) <| wt 16 78 rfl (fun w2 c2 => (op_extract (v := S _ _ _) rfl rfl)) (hs [0, 1, 3, 4, 5, 6, 7] b8) <| wt 17 79 rfl (fun w2 c2 => (op_extract (v := I _) rfl rfl)) (hs [0, 1, 3, 4, 5, 6, 7] b8) <| wt 18 80 rfl (fun w2 c2 => (op_nilCheck rfl)) (hs [0, 1, 3, 4, 5, 6, 7] b8) <| wt 19 81 rfl (fun _ _ => oF 13 13 rfl) (hs [0, 1, 3, 4, 5, 6, 7] b8) <| wh_ready [20] (by kernel_rfl) rfl ⟨?_, trivial⟩
        refine ws_store1 2 (v := S _ _ _) rfl (by kernel_rfl) rfl rfl (by kernel_rfl) rfl rfl (by kernel_rfl) (H' := [_, _, blkE _ _ [_, _, _, _, _, _, _, _, _, _, _, _, _, _, _], _, _, _, _, _]) rfl b8 fun cr bz => ⟨(hs [0, 1, 3, 4, 5, 6, 7] bz), ?_⟩
        exact wh_done (bf.1, bf.2.1, bf.2.2) (by kernel_rfl) sq (hs [4, 5, 6, 7, 3, 2, 1, 0] bz)
       intro a1
       refine xm_next <| sr <| la 2 ((83, I _) :: (82, .pointer (some ⟨_, _, _⟩)) :: _) rfl <| lm_callH 84 (V := (fun (_r : (List ApiFinding)) (_u : Hdr) => (.tuple #[] : Value))) [blkE bd 74 [I ((ix p0.Bills a.2).ID), I ((ix p0.Bills a.2).Household), I ((ix p0.Bills a.2).When.From), I ((ix p0.Bills a.2).When.To), S ((b a.2).1) ((b a.2).2.1) ((b a.2).2.2), I ((ix p0.Bills a.2).Total), S t U X, S y Y Z, S m C G, S o J K, S q L M, I p0.Account.Gap, S j.1 j.2.1 j.2.2, S a1.1 a1.2.1 a1.2.2, .func (.func 58) #[] #[.pointer (some ⟨ay, 0, none⟩)]], ownE 100 5 encApiItem j.1 j.2.1 j.2.2 b1.1, ownE 3 1 encI a1.1 a1.2.1 a1.2.2 b2.1, blkE ay 70 [.pointer (some ⟨a0, 0, none⟩)], blkE a0 43 [S d.1 d.2.1 d.2.2], ownE 64 3 encApiFinding d.1 d.2.1 d.2.2 a.1] [blkE b5 40 [I p0.Now, S t U X, S y Y Z, S m C G, S o J K, S q L M, I p0.Account.Gap, S ai aj ak, I p0.Inside, I p0.Bins, S am an ao, S aq ar au, S av aw ax, S a3 a4 a5, S a6 a7 a8, S a9 aa ab, S ac ad ae, S f Q g, S af ag ah], blkE b0 52 [I ((ix p0.Bills a.2).ID), I ((ix p0.Bills a.2).Household), I ((ix p0.Bills a.2).When.From), I ((ix p0.Bills a.2).When.To), S ((b a.2).1) ((b a.2).2.1) ((b a.2).2.2), I ((ix p0.Bills a.2).Total)]] (O := (fun (r : (List ApiFinding)) (u : Hdr) => [blkE bd 74 [I (AuditInvoice.mk (ix p0.Bills a.2) p0.Account b1.1 b2.1 ()).Bill.ID, I (AuditInvoice.mk (ix p0.Bills a.2) p0.Account b1.1 b2.1 ()).Bill.Household, I (AuditInvoice.mk (ix p0.Bills a.2) p0.Account b1.1 b2.1 ()).Bill.When.From, I (AuditInvoice.mk (ix p0.Bills a.2) p0.Account b1.1 b2.1 ()).Bill.When.To, S ((b a.2).1) ((b a.2).2.1) ((b a.2).2.2), I (AuditInvoice.mk (ix p0.Bills a.2) p0.Account b1.1 b2.1 ()).Bill.Total, S t U X, S y Y Z, S m C G, S o J K, S q L M, I (AuditInvoice.mk (ix p0.Bills a.2) p0.Account b1.1 b2.1 ()).account_.Gap, S j.1 j.2.1 j.2.2, S a1.1 a1.2.1 a1.2.2, .func (.func 58) #[] #[.pointer (some ⟨ay, 0, none⟩)]], ownE 100 5 encApiItem j.1 j.2.1 j.2.2 (AuditInvoice.mk (ix p0.Bills a.2) p0.Account b1.1 b2.1 ()).base_, ownE 3 1 encI a1.1 a1.2.1 a1.2.2 (AuditInvoice.mk (ix p0.Bills a.2) p0.Account b1.1 b2.1 ()).counted_, blkE ay 70 [.pointer (some ⟨a0, 0, none⟩)], blkE a0 43 [S u.1 u.2.1 u.2.2], ownE 64 3 encApiFinding u.1 u.2.1 u.2.2 r])) (sh [5, 6, 7, 3, 1, 2, 0, 4]) (by kernel_rfl) (fun w1 => op_call (by kernel_rfl)) (fun r1 hr1 w1 c1 => m_audit_invoice_items_ok N w0 w1 [blkE b5 40 [I p0.Now, S t U X, S y Y Z, S m C G, S o J K, S q L M, I p0.Account.Gap, S ai aj ak, I p0.Inside, I p0.Bins, S am an ao, S aq ar au, S av aw ax, S a3 a4 a5, S a6 a7 a8, S a9 aa ab, S ac ad ae, S f Q g, S af ag ah], blkE b0 52 [I ((ix p0.Bills a.2).ID), I ((ix p0.Bills a.2).Household), I ((ix p0.Bills a.2).When.From), I ((ix p0.Bills a.2).When.To), S ((b a.2).1) ((b a.2).2.1) ((b a.2).2.2), I ((ix p0.Bills a.2).Total)]] (AuditInvoice.mk (ix p0.Bills a.2) p0.Account b1.1 b2.1 ()) () a.1 a.2 bd ((b a.2).1) ((b a.2).2.1) ((b a.2).2.2) t U X y Y Z m C G o J K q L M j.1 j.2.1 j.2.2 a1.1 a1.2.1 a1.2.2 ay a0 d.1 d.2.1 d.2.2 (bb a.2 bc).1 (bb a.2 bc).2 bj bk bl bm bn bo c1 r1 hr1) fun ct br => nn <| sr <| vf 85 17 17 rfl <| vc 86 6 rfl rfl rfl <| la 1 ((87, I _) :: _) rfl <| lm_ck (fun b7 => ?_)
       refine v_ 88 (fun _ _ => op_sliceTo2 (l := p0.Bills) rfl rfl (by kernel_rfl) (by kernel_rfl) b6 b7.1 b7.2) <| v_ 89 (fun _ _ => op_lenN rfl (by kernel_rfl) (b6.take b7.1 b7.2).2.2) <| la 1 ((90, I _) :: _) rfl <| nn <| cm_block <| cm_loop (σ := (List ApiFinding) × Int) (ξ := Hdr) (fun e a2 => [(1, .pointer (some ⟨b5, 0, none⟩)), (5, .pointer (some ⟨a0, 0, none⟩)), (6, .func (.func 58) #[] #[.pointer (some ⟨ay, 0, none⟩)]), (7, I a.2), (8, .pointer (some ⟨b0, 0, none⟩)), (29, S f Q g), (30, I (List.length p0.Bills : Int)), (31, I a.2), (88, S f (Int.toNat a.2) g), (89, I (List.length (List.take (Int.toNat a.2) p0.Bills) : Int)), (90, I e.2)]) (fun e a2 => [blkE b5 40 [I p0.Now, S t U X, S y Y Z, S m C G, S o J K, S q L M, I p0.Account.Gap, S ai aj ak, I p0.Inside, I p0.Bins, S am an ao, S aq ar au, S av aw ax, S a3 a4 a5, S a6 a7 a8, S a9 aa ab, S ac ad ae, S f Q g, S af ag ah], blkE a0 43 [S a2.1 a2.2.1 a2.2.2], ownE 64 3 encApiFinding a2.1 a2.2.1 a2.2.2 e.1, blkE ay 70 [.pointer (some ⟨a0, 0, none⟩)], blkE b0 52 [I ((ix p0.Bills a.2).ID), I ((ix p0.Bills a.2).Household), I ((ix p0.Bills a.2).When.From), I ((ix p0.Bills a.2).When.To), S ((b a.2).1) ((b a.2).2.1) ((b a.2).2.2), I ((ix p0.Bills a.2).Total)]]) (br.1, br.2.1, br.2.2) ?_ ?_ ?_
       ·exact sq
       ·exact sh [6, 4, 5, 3, 7]
       intro e a2
       refine sr <| la 1 ((91, B _) :: _) rfl <| nn <| cm_seq <| cc rfl (fun cb => ?_) (fun cb => ?_)
       ·refine sk <| cm_join (σ := (List ApiFinding)) (ξ := Hdr) (fun bs b4 => [(1, .pointer (some ⟨b5, 0, none⟩)), (5, .pointer (some ⟨a0, 0, none⟩)), (6, .func (.func 58) #[] #[.pointer (some ⟨ay, 0, none⟩)]), (7, I a.2), (8, .pointer (some ⟨b0, 0, none⟩)), (29, S f Q g), (30, I (List.length p0.Bills : Int)), (31, I a.2), (88, S f (Int.toNat a.2) g), (89, I (List.length (List.take (Int.toNat a.2) p0.Bills) : Int)), (90, I e.2)]) (fun bs b4 => [blkE b5 40 [I p0.Now, S t U X, S y Y Z, S m C G, S o J K, S q L M, I p0.Account.Gap, S ai aj ak, I p0.Inside, I p0.Bins, S am an ao, S aq ar au, S av aw ax, S a3 a4 a5, S a6 a7 a8, S a9 aa ab, S ac ad ae, S f Q g, S af ag ah], blkE a0 43 [S b4.1 b4.2.1 b4.2.2], ownE 64 3 encApiFinding b4.1 b4.2.1 b4.2.2 bs, blkE ay 70 [.pointer (some ⟨a0, 0, none⟩)], blkE b0 52 [I ((ix p0.Bills a.2).ID), I ((ix p0.Bills a.2).Household), I ((ix p0.Bills a.2).When.From), I ((ix p0.Bills a.2).When.To), S ((b a.2).1) ((b a.2).2.1) ((b a.2).2.2), I ((ix p0.Bills a.2).Total)]]) ?_ ?_
        ·refine cm_block <| sr <| la 1 ((92, I _) :: _) rfl <| lm_ck (fun bg => ?_)
         refine v_ 93 (fun _ c1 => oI 6 rfl rfl (((ba.old c1).take b7.1 b7.2).addr bg.1 bg.2) (b6.take b7.1 b7.2).2.2 bg) <| v_ 94 (fun _ c1 => oR [I ((ix (List.take (Int.toNat a.2) p0.Bills) e.2).ID), I ((ix (List.take (Int.toNat a.2) p0.Bills) e.2).Household), I ((ix (List.take (Int.toNat a.2) p0.Bills) e.2).When.From), I ((ix (List.take (Int.toNat a.2) p0.Bills) e.2).When.To), S ((b e.2).1) ((b e.2).2.1) ((b e.2).2.2), I ((ix (List.take (Int.toNat a.2) p0.Bills) e.2).Total)] (((ba.old c1).take b7.1 b7.2).row bg.1 bg.2)) <| al 11 [I 0, I 0, I 0, I 0, S none 0 0, I 0] (v := .agg #[I 0, I 0, I 0, I 0, S none 0 0, I 0]) rfl fun c0 => la 1 ((10, I _) :: _) rfl <| sA 0 [I _, I _, I _, I _, S _ _ _, I _] [_, _, _, _, _, _] (H' := [blkE _ _ [_, _, _, _, _, _], _, _, _, _, _]) rfl rfl rfl rfl rfl rfl <| nn <| cm_seq <| cm_bind fun c3 cd => cm_cutE [(122, B ((c3 && (decide ((ix (List.take (Int.toNat a.2) p0.Bills) e.2).Household = (ix p0.Bills a.2).Household))) && (decide ((max ((ix p0.Bills a.2).When.From) ((ix (List.take (Int.toNat a.2) p0.Bills) e.2).When.From)) < (min ((ix p0.Bills a.2).When.To) ((ix (List.take (Int.toNat a.2) p0.Bills) e.2).When.To))))))] ?_ ?_
         ·refine qf 95 1 1 rfl <| qR 96 [S _ _ _, S _ _ _, S _ _ _, S _ _ _, S _ _ _, I _] 1 rfl rfl rfl <| qR 97 [I _, I _, I _, I _, S _ _ _, I _] 0 rfl rfl rfl <| qkb 98 (fun w1 c1 => m_audit_valid_ok N w1 p0.Account (ix (List.take (Int.toNat a.2) p0.Bills) e.2) t U X y Y Z m C G o J K q L M ((b e.2).1) ((b e.2).2.1) ((b e.2).2.2) bi c3 cd) (fun bh => ?_) (fun bh => ?_)
          ·refine qa 1 ((99, B true) :: _) rfl <| qf 100 1 1 rfl <| qc 101 0 rfl rfl rfl <| qf 102 1 1 rfl <| qc 103 5 rfl rfl rfl <| qd 104 (fun _ _ => op_eql rfl rfl) (fun bt => ?_) (fun bt => ?_)
           ·exact qa 2 ((106, B true) :: (105, B true) :: _) rfl <| qf 107 2 2 rfl <| qf 108 0 2 rfl <| qc 109 5 rfl rfl rfl <| qf 110 2 2 rfl <| qf 111 0 2 rfl <| qc 112 0 rfl rfl rfl <| q_ 113 (fun _ _ => op_max rfl rfl) <| qf 114 2 2 rfl <| qf 115 1 3 rfl <| qc 116 5 rfl rfl rfl <| qf 117 2 2 rfl <| qf 118 1 3 rfl <| qc 119 0 rfl rfl rfl <| q_ 120 (fun _ _ => op_min rfl rfl) <| qa 2 ((122, B _) :: (121, B _) :: _) rfl <| lb 28 rfl (by rw [bh, dt bt] <;> rfl)
           ·exact qa 18 ((122, B false) :: uz 121 15 ((106, B false) :: (105, B false) :: _)) rfl <| lb 28 rfl (by rw [bh, df bt] <;> rfl)
          ·exact qa 24 ((122, B false) :: uz 121 15 ((106, B false) :: (105, B false) :: uz 104 5 ((99, B false) :: _))) rfl <| lb 28 rfl (by rw [bh] <;> rfl)
         refine xm_next <| cB rfl (fun ce => ?_) (fun ce => ?_)
         ·exact cm_region <| la 3 ((125, I _) :: (124, I _) :: (123, .func _ _ _) :: _) rfl <| lm_callH 126 (V := (fun (_r : Unit) (_u : Hdr) => (.tuple #[] : Value))) [blkE ay 70 [.pointer (some ⟨a0, 0, none⟩)], blkE a0 43 [S a2.1 a2.2.1 a2.2.2], ownE 64 3 encApiFinding a2.1 a2.2.1 a2.2.2 e.1] [blkE c0 52 [I ((ix (List.take (Int.toNat a.2) p0.Bills) e.2).ID), I ((ix (List.take (Int.toNat a.2) p0.Bills) e.2).Household), I ((ix (List.take (Int.toNat a.2) p0.Bills) e.2).When.From), I ((ix (List.take (Int.toNat a.2) p0.Bills) e.2).When.To), S ((b e.2).1) ((b e.2).2.1) ((b e.2).2.2), I ((ix (List.take (Int.toNat a.2) p0.Bills) e.2).Total)], blkE b5 40 [I p0.Now, S t U X, S y Y Z, S m C G, S o J K, S q L M, I p0.Account.Gap, S ai aj ak, I p0.Inside, I p0.Bins, S am an ao, S aq ar au, S av aw ax, S a3 a4 a5, S a6 a7 a8, S a9 aa ab, S ac ad ae, S f Q g, S af ag ah], blkE b0 52 [I ((ix p0.Bills a.2).ID), I ((ix p0.Bills a.2).Household), I ((ix p0.Bills a.2).When.From), I ((ix p0.Bills a.2).When.To), S ((b a.2).1) ((b a.2).2.1) ((b a.2).2.2), I ((ix p0.Bills a.2).Total)]] (O := (fun (_r : Unit) (u : Hdr) => [blkE ay 70 [.pointer (some ⟨a0, 0, none⟩)], blkE a0 43 [S u.1 u.2.1 u.2.2], ownE 64 3 encApiFinding u.1 u.2.1 u.2.2 (e.1 ++ ([(ApiFinding.mk (14 : Int) a.2 e.2)]))])) (sh [4, 2, 3, 0, 1, 5]) (by kernel_rfl) (fun w1 => op_callv rfl (by kernel_rfl)) (fun r1 hr1 w1 c1 => m_audit_collector_1_ok N w0 w1 [blkE c0 52 [I ((ix (List.take (Int.toNat a.2) p0.Bills) e.2).ID), I ((ix (List.take (Int.toNat a.2) p0.Bills) e.2).Household), I ((ix (List.take (Int.toNat a.2) p0.Bills) e.2).When.From), I ((ix (List.take (Int.toNat a.2) p0.Bills) e.2).When.To), S ((b e.2).1) ((b e.2).2.1) ((b e.2).2.2), I ((ix (List.take (Int.toNat a.2) p0.Bills) e.2).Total)], blkE b5 40 [I p0.Now, S t U X, S y Y Z, S m C G, S o J K, S q L M, I p0.Account.Gap, S ai aj ak, I p0.Inside, I p0.Bins, S am an ao, S aq ar au, S av aw ax, S a3 a4 a5, S a6 a7 a8, S a9 aa ab, S ac ad ae, S f Q g, S af ag ah], blkE b0 52 [I ((ix p0.Bills a.2).ID), I ((ix p0.Bills a.2).Household), I ((ix p0.Bills a.2).When.From), I ((ix p0.Bills a.2).When.To), S ((b a.2).1) ((b a.2).2.1) ((b a.2).2.2), I ((ix p0.Bills a.2).Total)]] (14 : Int) a.2 e.2 () e.1 ay a0 a2.1 a2.2.1 a2.2.2  c1 r1 hr1) fun cu bu => lm_nil <| xm_inN <| xn (bu.1, bu.2.1, bu.2.2) [4, 1, 2, 0, 5]
         ·exact cm_skip <| xm_inN <| xn (a2.1, a2.2.1, a2.2.2) [1, 2, 3, 4, 5]
        intro bs b4
        refine cm_region <| lm_ck (fun cf => ?_)
        exact va 127 cf rfl rfl <| la 1 ((90, I _) :: _) rfl <| lm_nil <| xn (b4.1, b4.2.1, b4.2.2) [0, 1, 2, 3, 4]
       ·exact cm_exit <| xm_thenE <| xm_lexit <| xm_here <| xm_inN <| xn (a2.1, a2.2.1, a2.2.2) [0, 1, 2, 3]
     intro bp b3
     refine cm_region <| lm_ck (fun cg => ?_)
     exact va 128 cg rfl rfl <| la 1 ((31, I _) :: _) rfl <| lm_nil <| xn (b3.1, b3.2.1, b3.2.2) [0, 1, 2, 3]
    ·exact cm_exit <| xm_thenE <| xm_lexit <| xm_here <| xn (d.1, d.2.1, d.2.2) [1, 2]
   intro bv b9
   exact sr <| vc 129 0 rfl rfl rfl <| la 2 ((3, I _) :: (2, S _ _ _) :: _) rfl <| nn <| cm_ret <| xrr [1] (b9.1, b9.2.1, b9.2.2)
end Go.Proofs.YtbnimhmoffchdaaGreatDoor
