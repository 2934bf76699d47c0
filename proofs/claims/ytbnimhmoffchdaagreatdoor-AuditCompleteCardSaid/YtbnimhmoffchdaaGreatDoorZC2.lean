/- Models of functions, and that the code follows them. Written by deco.py. -/
import Derived.Test.YtbnimhmoffchdaaGreatDoorZC1
namespace Go.Proofs.YtbnimhmoffchdaaGreatDoor
open Go.RowKit
set_option linter.unusedSectionVars false
variable [JF]

theorem op_eqApiClaim {e : Env} {w : World} {d : Option Tmp} {ty : TypeId} {ps : String} {af : Array Edge} {g : Option (Nat × Bool)} {x y : Operand} (a b : ApiClaim) (hx : eev e x = .agg (encApiClaim a).toArray) (hy : eev e y = .agg (encApiClaim b).toArray) : OpV Tryz.prog e w ⟨d, .binOp .eql 150 x y 150, ty, ps, af, g⟩ (.bool (decide (a = b))) :=
 op_eqFlat (cs := encApiClaim a) (ds := encApiClaim b) hx hy Tryz.underlying150 (by kernel_rfl) (by kernel_rfl) (by kernel_rfl) (by cases a; cases b; simp [celsEq, celEq, encApiClaim, Bool.beq_eq_decide_eq])
theorem op_neApiClaim {e : Env} {w : World} {d : Option Tmp} {ty : TypeId} {ps : String} {af : Array Edge} {g : Option (Nat × Bool)} {x y : Operand} (a b : ApiClaim) (hx : eev e x = .agg (encApiClaim a).toArray) (hy : eev e y = .agg (encApiClaim b).toArray) : OpV Tryz.prog e w ⟨d, .binOp .neq 150 x y 150, ty, ps, af, g⟩ (.bool (decide (a ≠ b))) := by
 have h := op_neqFlat (t' := 150) (d := d) (ty := ty) (ps := ps) (af := af) (g := g) (w := w) (cs := encApiClaim a) (ds := encApiClaim b) (b := decide (a = b)) hx hy Tryz.underlying150 (by kernel_rfl) (by kernel_rfl) (by kernel_rfl) (by cases a; cases b; simp [celsEq, celEq, encApiClaim, Bool.beq_eq_decide_eq])
 rwa [← decide_not] at h
/-- audit.sold -/
def m_audit_sold (N : Nat) (p0 : (List ApiSale)) (p1 : Int) : Option (ApiSale × Bool) :=
 (andThen
  (loopM (fun (a : Int) =>
   (if a < (List.length p0 : Int) then
    ck (0 ≤ a ∧ a < (List.length p0 : Int)) (
     ck ((((decide (0 ≤ (ix p0 a).First)) && (decide (0 < (ix p0 a).Count))) && (decide ((ix p0 a).First ≤ p1))) = true → I64 (p1 - ((ix p0 a).First))) (
      (if ((((decide (0 ≤ (ix p0 a).First)) && (decide (0 < (ix p0 a).Count))) && (decide ((ix p0 a).First ≤ p1))) && (decide ((p1 - ((ix p0 a).First)) < (ix p0 a).Count))) = true then
       some (.done (.done (((ix p0 a), true))))
      else
       ck (I64 (a + 1)) (
        some (.next (a + 1))))))
   else
    some (.done (.next ())))) N 0)
 fun (_s39 : Unit) =>
  some (((ApiSale.mk 0 0 0 0 0), false)))
set_option maxHeartbeats 2000000 in
set_option maxRecDepth 20000 in
theorem m_audit_sold_ok (N : Nat) (w0 : World) (p0 : (List ApiSale)) (p1 : Int) (d : Ad) (f g : Nat) (i : RdE w0 5 encApiSale d p0) (j : SW d f g (List.length p0)) (r : ApiSale × Bool) (hr : m_audit_sold N p0 p1 = some r) :
  Ret Tryz.prog 88 [S d f g, I p1] w0 (fun (r : ApiSale × Bool) (_u : Unit) => .tuple #[.agg #[I r.1.Product, I r.1.First, I r.1.Count, I r.1.Retailer, I r.1.At], B r.2]) H0 r := by
 refine calls_v (n := 40) r hr Tryz.func88 ?_
 unfold m_audit_sold
 refine sr <| al 4 [I 0, I 0, I 0, I 0, I 0] (v := .agg #[I 0, I 0, I 0, I 0, I 0]) rfl fun b5 => la 1 ((5, B false) :: _) rfl <| nn <| cm_join (σ := Unit) (ξ := Unit) (fun m o => [(4, .pointer (some ⟨b5, 0, none⟩))]) (fun m o => [blkE b5 154 [I 0, I 0, I 0, I 0, I 0]]) ?_ ?_
 ·refine sr <| la 1 ((8, S _ _ _) :: _) rfl <| vn 9 j rfl <| la 1 ((10, I _) :: _) rfl <| nn <| cm_block <| cm_loop (σ := Int) (ξ := Unit) (fun a q => [(1, I p1), (4, .pointer (some ⟨b5, 0, none⟩)), (8, S d f g), (9, I (List.length p0 : Int)), (10, I a)]) (fun a q => [blkE b5 154 [I 0, I 0, I 0, I 0, I 0]]) () ?_ ?_ ?_
  ·exact sq
  ·exact sh [0]
  intro a q
  refine sr <| la 1 ((11, B _) :: _) rfl <| nn <| cm_seq <| cc rfl (fun x => ?_) (fun x => ?_)
  ·refine sk <| cm_seq <| cm_block <| sr <| lm_ck (fun t => ?_)
   refine vi 12 5 i j t rfl rfl <| vr 13 i t rfl <| al 7 [I 0, I 0, I 0, I 0, I 0] (v := .agg #[I 0, I 0, I 0, I 0, I 0]) rfl fun J => sA 0 [I _, I _, I _, I _, I _] [_, _, _, _, _] (H' := [blkE _ _ [_, _, _, _, _], _]) rfl rfl rfl rfl rfl rfl <| nn <| cm_seq <| cm_ck (fun y => ?_)
   refine cm_cutE [(36, B ((((decide (0 ≤ (ix p0 a).First)) && (decide (0 < (ix p0 a).Count))) && (decide ((ix p0 a).First ≤ p1))) && (decide ((p1 - ((ix p0 a).First)) < (ix p0 a).Count))))] ?_ ?_
   ·refine qf 14 1 1 rfl <| qc 15 0 rfl rfl rfl <| qd 16 (fun _ _ => op_geq rfl rfl) (fun b => ?_) (fun b => ?_)
    ·refine qa 1 ((17, B true) :: _) rfl <| qf 18 2 2 rfl <| qc 19 0 rfl rfl rfl <| qd 20 (fun _ _ => op_gtr rfl rfl) (fun e => ?_) (fun e => ?_)
     ·refine qa 3 ((23, I _) :: (22, B true) :: (21, B true) :: _) rfl <| qf 24 1 1 rfl <| qc 25 0 rfl rfl rfl <| qd 26 (fun _ _ => op_geq rfl rfl) (fun l => ?_) (fun l => ?_)
      ·exact qa 3 ((29, I _) :: (28, B true) :: (27, B true) :: _) rfl <| qf 30 1 1 rfl <| qc 31 0 rfl rfl rfl <| q_ 32 (fun _ _ => op_sub rfl rfl (y (by rw [dt b, dt e, dt l] <;> rfl))) <| qf 33 2 2 rfl <| qc 34 0 rfl rfl rfl <| qa 2 ((36, B _) :: (35, B _) :: _) rfl <| lb 23 rfl (by rw [dt b, dt e, dt l] <;> rfl)
      ·exact qa 10 ((36, B false) :: uz 35 7 ((28, B false) :: (27, B false) :: _)) rfl <| lb 23 rfl (by rw [dt b, dt e, df l] <;> rfl)
     ·exact qa 16 ((36, B false) :: uz 35 7 ((28, B false) :: (27, B false) :: uz 26 4 ((22, B false) :: (21, B false) :: _))) rfl <| lb 23 rfl (by rw [dt b, df e] <;> rfl)
    ·exact qa 20 ((36, B false) :: uz 35 7 ((28, B false) :: (27, B false) :: uz 26 4 ((22, B false) :: (21, B false) :: uz 20 3 ((17, B false) :: _)))) rfl <| lb 23 rfl (by rw [df b] <;> rfl)
   refine xm_next <| cB rfl (fun C => ?_) (fun C => ?_)
   ·exact sr <| vR 37 [I _, I _, I _, I _, I _] 0 rfl rfl rfl <| sA 1 [I _, I _, I _, I _, I _] [_, _, _, _, _] (H' := [_, blkE _ _ [_, _, _, _, _]]) rfl rfl rfl rfl rfl rfl <| la 1 ((5, B true) :: _) rfl <| nn <| cm_ret <| xm_inR <| xm_thenR <| xm_lret <| xm_inR <| xm_lret <| xm_retCT rfl (by kernel_rfl) (show _ = Value.pointer (some ⟨_, 0, none⟩) from rfl) (by kernel_rfl) (fun w1 c1 => c1.cells 1 (ds := [I _, I _, I _, I _, I _]) rfl rfl) (by kernel_rfl) (show _ = B true from rfl) fun w1 c1 => ⟨(), rfl, hs [] c1⟩
   ·refine cm_skip <| xm_inN <| xm_next <| cm_region <| lm_ck (fun G => ?_)
    exact va 38 G rfl rfl <| la 1 ((10, I _) :: _) rfl <| lm_nil <| xn () [1]
  ·exact cm_exit <| xm_thenE <| xm_lexit <| xm_here <| xn () [0]
 intro m o
 exact sr <| v_ 39 (fun _ _ => op_build (z := [I 0, I 0, I 0, I 0, I 0]) (tab := [(0, 1), (1, 1), (2, 1), (3, 1), (4, 1)]) (cs := [I _, I _, I _, I _, I _]) [] (by kernel_rfl) (by kernel_rfl) fillOk_nil rfl) <| sA 0 [I _, I _, I _, I _, I _] [_, _, _, _, _] (H' := [blkE _ _ [_, _, _, _, _]]) rfl rfl rfl rfl rfl rfl <| la 1 ((5, B false) :: _) rfl <| nn <| cm_ret <| xm_retCT rfl (by kernel_rfl) (show _ = Value.pointer (some ⟨_, 0, none⟩) from rfl) (by kernel_rfl) (fun w1 c1 => c1.cells 0 (ds := [I _, I _, I _, I _, I _]) rfl rfl) (by kernel_rfl) (show _ = B false from rfl) fun w1 c1 => ⟨(), rfl, hs [] c1⟩
/-- audit.Deposits$1 -/
def m_audit_Deposits_1 (_N : Nat) (p0 : ApiPayout) (q0 : ApiPayout) : Option (Bool) :=
 some ((decide (p0.Claim.Serial = q0.Claim.Serial)))
set_option maxRecDepth 20000 in
theorem m_audit_Deposits_1_ok (N : Nat) (w0 : World) (p0 : ApiPayout) (q0 : ApiPayout) (a : Nat) (b : Blk w0 a 152 [I q0.Claim.Serial, I q0.Claim.Machine, I q0.Claim.Seq, I q0.Claim.At, B q0.Claim.Paid, I q0.Product, I q0.Amount]) (r : Bool) (hr : m_audit_Deposits_1 N p0 q0 = some r) :
  Ret Tryz.prog 90 [.agg #[I p0.Claim.Serial, I p0.Claim.Machine, I p0.Claim.Seq, I p0.Claim.At, B p0.Claim.Paid, I p0.Product, I p0.Amount], .pointer (some ⟨a, 0, none⟩)] w0 VB H0 r := by
 refine calls_v (n := 11) r hr Tryz.func90 ?_
 unfold m_audit_Deposits_1
 exact sr <| bx 2 [I _, I _, I _, I _, B _, I _, I _] rfl fun b5 => la 1 ((3, B false) :: _) rfl <| nn <| sr <| vf 4 0 0 rfl <| vf 5 0 0 rfl <| vc 6 0 rfl rfl rfl <| vf 7 0 0 rfl <| vf 8 0 0 rfl <| v_ 9 (fun _ c1 => oL (c1.ocell (b.at_ 0 (u := I _) rfl))) <| la 2 ((3, B _) :: (10, B _) :: _) rfl <| nn <| cm_ret <| xr [] ()
/-- slices.IndexFunc -/
def m_slices_IndexFunc_audit_Deposits_1 (N : Nat) (p0 : (List ApiPayout)) (p1c0 : ApiPayout) : Option (Int) :=
 (andThen
  (loopM (fun (a : Int) =>
   (if a < (List.length p0 : Int) then
    ck (0 ≤ a ∧ a < (List.length p0 : Int)) (
     Option.bind (m_audit_Deposits_1 N (ix p0 a) p1c0) fun b => (if b = true then
      some (.done (.done (a)))
     else
      ck (I64 (a + 1)) (
       some (.next (a + 1)))))
   else
    some (.done (.next ())))) N 0)
 fun (_s29 : Unit) =>
  some ((-1 : Int)))
set_option maxRecDepth 20000 in
theorem m_slices_IndexFunc_audit_Deposits_1_ok (N : Nat) (w0 : World) (p0 : (List ApiPayout)) (p1c0 : ApiPayout) (b : Ad) (d e a : Nat) (f : RdE w0 7 encApiPayout b p0) (g : SW b d e (List.length p0)) (j : Blk w0 a 152 [I p1c0.Claim.Serial, I p1c0.Claim.Machine, I p1c0.Claim.Seq, I p1c0.Claim.At, B p1c0.Claim.Paid, I p1c0.Product, I p1c0.Amount]) (r : Int) (hr : m_slices_IndexFunc_audit_Deposits_1 N p0 p1c0 = some r) :
  Ret Tryz.prog 89 [S b d e, .func (.func 90) #[] #[.pointer (some ⟨a, 0, none⟩)]] w0 VI H0 r := by
 refine calls_v (n := 19) r hr Tryz.func89 ?_
 unfold m_slices_IndexFunc_audit_Deposits_1
 refine sr <| la 1 ((4, I _) :: _) rfl <| nn <| cm_join (σ := Unit) (ξ := Unit) (fun l m => []) (fun l m => []) ?_ ?_
 ·refine sr <| la 1 ((6, S _ _ _) :: _) rfl <| vn 7 g rfl <| la 1 ((8, I _) :: _) rfl <| nn <| cm_block <| cm_loop (σ := Int) (ξ := Unit) (fun i o => [(0, S b d e), (1, .func (.func 90) #[] #[.pointer (some ⟨a, 0, none⟩)]), (7, I (List.length p0 : Int)), (8, I i)]) (fun i o => []) () ?_ ?_ ?_
  ·exact sq
  ·exact sh []
  intro i o
  refine sr <| la 1 ((9, B _) :: _) rfl <| nn <| cm_seq <| cc rfl (fun t => ?_) (fun t => ?_)
  ·refine sk <| cm_seq <| cm_block <| sr <| la 2 ((5, I _) :: (10, I _) :: _) rfl <| nn <| sr <| la 3 ((13, I _) :: (12, S _ _ _) :: (11, .func _ _ _) :: _) rfl <| lm_ck (fun q => ?_)
   refine vi 14 7 f g q rfl rfl <| vr 15 f q rfl <| lm_call 16 (V := VB) (HR := H0) (by kernel_rfl) (fun w1 => op_callv rfl (by kernel_rfl)) (fun r1 hr1 w1 c1 => m_audit_Deposits_1_ok N w1 (ix p0 i) p1c0 a (c1.oblk j) r1 hr1) fun y z => nn <| cB rfl (fun v => ?_) (fun v => ?_)
   ·exact sr <| la 2 ((4, I _) :: (17, I _) :: _) rfl <| nn <| cm_ret <| xm_inR <| xm_thenR <| xm_lret <| xm_inR <| xm_lret <| xr [] ()
   ·refine cm_skip <| xm_inN <| xm_next <| cm_region <| lm_ck (fun x => ?_)
    exact va 18 x rfl rfl <| la 1 ((8, I _) :: _) rfl <| lm_nil <| xn () []
  ·exact cm_exit <| xm_thenE <| xm_lexit <| xm_here <| xm_lnext () sub_nil (sh [])
 intro l m
 exact sr <| la 1 ((4, I _) :: _) rfl <| nn <| cm_ret <| xr [] ()
/-- slices.Index -/
def m_slices_Index_131 (N : Nat) (p0 : (List ApiClaim)) (p1 : ApiClaim) : Option (Int) :=
 (andThen
  (loopM (fun (a : Int) =>
   (if a < (List.length p0 : Int) then
    ck (0 ≤ a ∧ a < (List.length p0 : Int)) (
     (if p1 = (ix p0 a) then
      some (.done (.done (a)))
     else
      ck (I64 (a + 1)) (
       some (.next (a + 1)))))
   else
    some (.done (.next ())))) N 0)
 fun (_s24 : Unit) =>
  some ((-1 : Int)))
set_option maxRecDepth 20000 in
theorem m_slices_Index_131_ok (N : Nat) (w0 : World) (p0 : (List ApiClaim)) (p1 : ApiClaim) (a : Ad) (d e : Nat) (f : RdE w0 5 encApiClaim a p0) (g : SW a d e (List.length p0)) (r : Int) (hr : m_slices_Index_131 N p0 p1 = some r) :
  Ret Tryz.prog 131 [S a d e, .agg #[I p1.Serial, I p1.Machine, I p1.Seq, I p1.At, B p1.Paid]] w0 VI H0 r := by
 refine calls_v (n := 19) r hr Tryz.func131 ?_
 unfold m_slices_Index_131
 refine sr <| bx 3 [I _, I _, I _, I _, B _] rfl fun b5 => la 1 ((4, I _) :: _) rfl <| nn <| cm_join (σ := Unit) (ξ := Unit) (fun i j => []) (fun i j => []) ?_ ?_
 ·refine sr <| la 1 ((6, S _ _ _) :: _) rfl <| vn 7 g rfl <| la 1 ((8, I _) :: _) rfl <| nn <| cm_block <| cm_loop (σ := Int) (ξ := Unit) (fun b l => [(0, S a d e), (3, .pointer (some ⟨b5, 0, none⟩)), (7, I (List.length p0 : Int)), (8, I b)]) (fun b l => [blkE b5 150 [I p1.Serial, I p1.Machine, I p1.Seq, I p1.At, B p1.Paid]]) () ?_ ?_ ?_
  ·exact sq
  ·exact sh [0]
  intro b l
  refine sr <| la 1 ((9, B _) :: _) rfl <| nn <| cm_seq <| cc rfl (fun o => ?_) (fun o => ?_)
  ·refine sk <| cm_seq <| cm_block <| sr <| la 2 ((5, I _) :: (10, I _) :: _) rfl <| nn <| cm_seq <| cm_ck (fun m => ?_)
   refine cm_drawn [(16, B (decide (p1 = (ix p0 b))))] (by kernel_rfl) (by kernel_rfl) ?_ ?_
   ·exact qR 11 [I _, I _, I _, I _, B _] 0 rfl rfl rfl <| qa 2 ((13, I _) :: (12, S _ _ _) :: _) rfl <| qi 14 5 f g m rfl rfl <| qr 15 f m rfl <| q_ 16 (fun _ _ => op_eqApiClaim p1 (ix p0 b) rfl rfl) <| lq 6
   refine xm_next <| cc rfl (fun q => ?_) (fun q => ?_)
   ·exact sr <| la 2 ((4, I _) :: (17, I _) :: _) rfl <| nn <| cm_ret <| xm_inR <| xm_thenR <| xm_lret <| xm_inR <| xm_lret <| xr [] ()
   ·refine cm_skip <| xm_inN <| xm_next <| cm_region <| lm_ck (fun t => ?_)
    exact va 18 t rfl rfl <| la 1 ((8, I _) :: _) rfl <| lm_nil <| xn () [0]
  ·exact cm_exit <| xm_thenE <| xm_lexit <| xm_here <| xm_lnext () sub_nil (sh [])
 intro i j
 exact sr <| la 1 ((4, I _) :: _) rfl <| nn <| cm_ret <| xr [] ()
/-- slices.Contains -/
def m_slices_Contains_91 (N : Nat) (p0 : (List ApiClaim)) (p1 : ApiClaim) : Option (Bool) :=
 Option.bind (m_slices_Index_131 N p0 p1) fun r6 => some ((decide (0 ≤ r6)))
set_option maxRecDepth 20000 in
theorem m_slices_Contains_91_ok (N : Nat) (w0 : World) (p0 : (List ApiClaim)) (p1 : ApiClaim) (a : Ad) (b d : Nat) (e : RdE w0 5 encApiClaim a p0) (f : SW a b d (List.length p0)) (r : Bool) (hr : m_slices_Contains_91 N p0 p1 = some r) :
  Ret Tryz.prog 91 [S a b d, .agg #[I p1.Serial, I p1.Machine, I p1.Seq, I p1.At, B p1.Paid]] w0 VB H0 r := by
 refine calls_v (n := 9) r hr Tryz.func91 ?_
 unfold m_slices_Contains_91
 exact sr <| bx 3 [I _, I _, I _, I _, B _] rfl fun b5 => la 1 ((4, B false) :: _) rfl <| nn <| sr <| la 1 ((5, S _ _ _) :: _) rfl <| vR 6 [I _, I _, I _, I _, B _] 0 rfl rfl rfl <| lc 7 (fun r1 hr1 w1 c1 => m_slices_Index_131_ok N w1 p0 p1 a b d (e.old c1) f r1 hr1) fun r6 u7 => la 2 ((4, B _) :: (8, B _) :: _) rfl <| nn <| cm_ret <| xr [] ()
/-- audit.Deposits -/
def m_audit_Deposits (N : Nat) (p0 : ApiBooks) : Option ((List ApiFinding) × Int) :=
 (if ((((decide (64 < (List.length p0.Products : Int))) || (decide (512 < (List.length p0.Sales : Int)))) || (decide (512 < (List.length p0.Claims : Int)))) || (decide (512 < (List.length p0.Paid : Int)))) = true then
  some ((([] : List ApiFinding), (8 : Int)))
 else
  Option.bind (m_audit_collector N ([] : List ApiFinding)) fun l => (andThen
   (loopM (fun (a : (List ApiFinding) × Int) =>
    (if a.2 < (List.length p0.Paid : Int) then
     (andThen
      (ck (0 ≤ a.2 ∧ a.2 < (List.length p0.Paid : Int)) (
       Option.bind (m_audit_sold N p0.Sales ((ix p0.Paid a.2).Claim.Serial)) fun f => (andThen
        (if ((((!f.2) || (decide ((ix p0.Paid a.2).Product ≠ f.1.Product))) || (decide ((ix p0.Paid a.2).Product < 0))) || (decide ((List.length p0.Products : Int) ≤ (ix p0.Paid a.2).Product))) = true then
         Option.bind (m_audit_collector_1 N (5 : Int) a.2 (0 : Int) () a.1) fun _m => some (.next (a.1 ++ ([(ApiFinding.mk (5 : Int) a.2 (0 : Int))])))
        else
         ck (0 ≤ (ix p0.Paid a.2).Product ∧ (ix p0.Paid a.2).Product < (List.length p0.Products : Int)) (
          (if (ix p0.Paid a.2).Amount ≠ (ix p0.Products ((ix p0.Paid a.2).Product)).Deposit then
           Option.bind (m_audit_collector_1 N (6 : Int) a.2 (0 : Int) () a.1) fun _o => some (.next (a.1 ++ ([(ApiFinding.mk (6 : Int) a.2 (0 : Int))])))
          else
           some (.next a.1))))
       fun (b : (List ApiFinding)) =>
        Option.bind (m_slices_IndexFunc_audit_Deposits_1 N p0.Paid (ix p0.Paid a.2)) fun d => (andThen
         (if d < a.2 then
          Option.bind (m_audit_collector_1 N (7 : Int) a.2 d () b) fun _q => some (.next (b ++ ([(ApiFinding.mk (7 : Int) a.2 d)])))
         else
          some (.next b))
        fun (e : (List ApiFinding)) =>
         Option.bind (m_slices_Contains_91 N p0.Claims ((ix p0.Paid a.2).Claim)) fun g => (if (!g) = true then
          Option.bind (m_audit_collector_1 N (8 : Int) a.2 (0 : Int) () e) fun _t => some (.next (e ++ ([(ApiFinding.mk (8 : Int) a.2 (0 : Int))])))
         else
          some (.next e))))))
     fun (i : (List ApiFinding)) =>
      ck (I64 (a.2 + 1)) (
       some (.next (i, (a.2 + 1)))))
    else
     some (.done (.next a.1)))) N (l, (0 : Int)))
  fun (j : (List ApiFinding)) =>
   some ((j, (0 : Int)))))
set_option maxHeartbeats 2000000 in
set_option maxRecDepth 20000 in
theorem m_audit_Deposits_ok (N : Nat) (w0 : World) (p0 : ApiBooks) (a5 : Ad) (a6 a7 : Nat) (a8 : Ad) (a9 aa : Nat) (ab : Ad) (ac ad : Nat) (ae : Ad) (af ag : Nat) (ah : Ad) (ai aj : Nat) (ak : Ad) (am an : Nat) (ao : Ad) (aq ar : Nat) (_bu : Int → Hdr) (Y : Ad) (a1 a2 : Nat) (U : Ad) (Z a0 : Nat) (i : Ad) (l o : Nat) (b : Ad) (d e : Nat) (q : Ad) (t x : Nat) (y : Ad) (z C : Nat) (G : Ad) (J K : Nat) (_bs : Int → Hdr) (L : Ad) (M Q : Nat) (_bt : Int → Hdr) (b8 : RdE w0 5 encApiProduct Y p0.Products) (b2 : SW Y a1 a2 (List.length p0.Products)) (bj : RdE w0 5 encApiSale U p0.Sales) (b9 : SW U Z a0 (List.length p0.Sales)) (bi : RdE w0 5 encApiClaim i p0.Claims) (b4 : SW i l o (List.length p0.Claims)) (az : RdE w0 7 encApiPayout b p0.Paid) (ay : SW b d e (List.length p0.Paid)) (r : (List ApiFinding) × Int) (hr : m_audit_Deposits N p0 = some r) :
  Ret Tryz.prog 37 [.agg #[I p0.Now, S a5 a6 a7, S a8 a9 aa, S ab ac ad, S ae af ag, S ah ai aj, I p0.Account.Gap, S ak am an, I p0.Inside, I p0.Bins, S ao aq ar, S Y a1 a2, S U Z a0, S i l o, S b d e, S q t x, S y z C, S G J K, S L M Q]] w0 (fun (r : (List ApiFinding) × Int) (u : Hdr) => .tuple #[S u.1 u.2.1 u.2.2, I r.2]) (fun (r : (List ApiFinding) × Int) (u : Hdr) => [ownE 64 3 encApiFinding u.1 u.2.1 u.2.2 r.1]) r := by
 refine calls_v (n := 111) r hr Tryz.func37 ?_
 unfold m_audit_Deposits
 refine sr <| bx 1 [I _, S _ _ _, S _ _ _, S _ _ _, S _ _ _, S _ _ _, I _, S _ _ _, I _, I _, S _ _ _, S _ _ _, S _ _ _, S _ _ _, S _ _ _, S _ _ _, S _ _ _, S _ _ _, S _ _ _] rfl fun b5 => la 2 ((3, I _) :: (2, S _ _ _) :: _) rfl <| nn <| cm_seq <| cm_seq <| cm_cutE [(32, B ((((decide (64 < (List.length p0.Products : Int))) || (decide (512 < (List.length p0.Sales : Int)))) || (decide (512 < (List.length p0.Claims : Int)))) || (decide (512 < (List.length p0.Paid : Int)))))] ?_ ?_
 ·refine qf 11 11 11 rfl <| qc 12 0 rfl rfl rfl <| qn 13 b2 rfl <| qd 14 (fun _ _ => op_gtr rfl rfl) (fun h6 => ?_) (fun h6 => ?_)
  ·exact qa 18 ((32, B true) :: uz 31 4 ((27, B true) :: (26, B true) :: uz 25 4 ((21, B true) :: (20, B true) :: uz 19 4 ((15, B true) :: _)))) rfl <| lb 22 rfl (by rw [dt h6] <;> rfl)
  ·refine qa 1 ((15, B false) :: _) rfl <| qf 16 12 12 rfl <| qc 17 0 rfl rfl rfl <| qn 18 b9 rfl <| qd 19 (fun _ _ => op_gtr rfl rfl) (fun h7 => ?_) (fun h7 => ?_)
   ·exact qa 13 ((32, B true) :: uz 31 4 ((27, B true) :: (26, B true) :: uz 25 4 ((21, B true) :: (20, B true) :: _))) rfl <| lb 22 rfl (by rw [df h6, dt h7] <;> rfl)
   ·refine qa 2 ((21, B false) :: (20, B false) :: _) rfl <| qf 22 13 13 rfl <| qc 23 0 rfl rfl rfl <| qn 24 b4 rfl <| qd 25 (fun _ _ => op_gtr rfl rfl) (fun h8 => ?_) (fun h8 => ?_)
    ·exact qa 7 ((32, B true) :: uz 31 4 ((27, B true) :: (26, B true) :: _)) rfl <| lb 22 rfl (by rw [df h6, df h7, dt h8] <;> rfl)
    ·exact qa 2 ((27, B false) :: (26, B false) :: _) rfl <| qf 28 14 14 rfl <| qc 29 0 rfl rfl rfl <| qn 30 ay rfl <| qa 2 ((32, B _) :: (31, B _) :: _) rfl <| lb 22 rfl (by rw [df h6, df h7, df h8] <;> rfl)
 refine xm_next <| cB rfl (fun h9 => ?_) (fun h9 => ?_)
 ·exact sr <| la 2 ((3, I _) :: (2, S _ _ _) :: _) rfl <| nn <| cm_ret <| xm_thenR <| xm_nilrow 64 3 encApiFinding <| xrr [0] (none, 0, 0)
 ·refine sk <| sr <| al 4 [S none 0 0] (v := S none 0 0) rfl fun g => nn <| sr <| lm_nilrow 64 3 encApiFinding <| lm_callH 33 (V := (fun (_r : (List ApiFinding)) (u : Nat) => (.func (.func 58) #[] #[.pointer (some ⟨u, 0, none⟩)] : Value))) [blkE g 43 [S none 0 0], ownE 64 3 encApiFinding none 0 0 ([] : List ApiFinding)] [blkE b5 40 [I p0.Now, S a5 a6 a7, S a8 a9 aa, S ab ac ad, S ae af ag, S ah ai aj, I p0.Account.Gap, S ak am an, I p0.Inside, I p0.Bins, S ao aq ar, S Y a1 a2, S U Z a0, S i l o, S b d e, S q t x, S y z C, S G J K, S L M Q]] (O := (fun (r : (List ApiFinding)) (u : Nat) => [blkE u 70 [.pointer (some ⟨g, 0, none⟩)], blkE g 43 [S none 0 0], ownE 64 3 encApiFinding none 0 0 r])) (sh [1, 0, 2]) (by kernel_rfl) (fun w1 => op_call (by kernel_rfl)) (fun r1 hr1 w1 c1 => m_audit_collector_ok N w0 w1 [blkE b5 40 [I p0.Now, S a5 a6 a7, S a8 a9 aa, S ab ac ad, S ae af ag, S ah ai aj, I p0.Account.Gap, S ak am an, I p0.Inside, I p0.Bins, S ao aq ar, S Y a1 a2, S U Z a0, S i l o, S b d e, S q t x, S y z C, S G J K, S L M Q]] ([] : List ApiFinding) g none 0 0  c1 r1 hr1) fun c6 au => la 1 ((5, .func _ _ _) :: _) rfl <| nn <| cm_join (σ := (List ApiFinding)) (ξ := Hdr) (fun ba aw => [(4, .pointer (some ⟨g, 0, none⟩))]) (fun ba aw => [blkE g 43 [S aw.1 aw.2.1 aw.2.2], ownE 64 3 encApiFinding aw.1 aw.2.1 aw.2.2 ba]) ?_ ?_
  ·refine sr <| vf 34 14 14 rfl <| vc 35 3 rfl rfl rfl <| vn 36 ay rfl <| la 1 ((37, I _) :: _) rfl <| nn <| cm_block <| cm_loop (σ := (List ApiFinding) × Int) (ξ := Hdr) (fun a f => [(1, .pointer (some ⟨b5, 0, none⟩)), (4, .pointer (some ⟨g, 0, none⟩)), (5, .func (.func 58) #[] #[.pointer (some ⟨au, 0, none⟩)]), (35, S b d e), (36, I (List.length p0.Paid : Int)), (37, I a.2)]) (fun a f => [blkE b5 40 [I p0.Now, S a5 a6 a7, S a8 a9 aa, S ab ac ad, S ae af ag, S ah ai aj, I p0.Account.Gap, S ak am an, I p0.Inside, I p0.Bins, S ao aq ar, S Y a1 a2, S U Z a0, S i l o, S b d e, S q t x, S y z C, S G J K, S L M Q], blkE g 43 [S f.1 f.2.1 f.2.2], ownE 64 3 encApiFinding f.1 f.2.1 f.2.2 a.1, blkE au 70 [.pointer (some ⟨g, 0, none⟩)]]) (none, 0, 0) ?_ ?_ ?_
   ·exact sq
   ·exact sh [3, 1, 2, 0]
   intro a f
   refine sr <| la 1 ((38, B _) :: _) rfl <| nn <| cm_seq <| cc rfl (fun bm => ?_) (fun bm => ?_)
   ·refine sk <| cm_join (σ := (List ApiFinding)) (ξ := Hdr) (fun bb ax => [(1, .pointer (some ⟨b5, 0, none⟩)), (4, .pointer (some ⟨g, 0, none⟩)), (5, .func (.func 58) #[] #[.pointer (some ⟨au, 0, none⟩)]), (35, S b d e), (36, I (List.length p0.Paid : Int)), (37, I a.2)]) (fun bb ax => [blkE b5 40 [I p0.Now, S a5 a6 a7, S a8 a9 aa, S ab ac ad, S ae af ag, S ah ai aj, I p0.Account.Gap, S ak am an, I p0.Inside, I p0.Bins, S ao aq ar, S Y a1 a2, S U Z a0, S i l o, S b d e, S q t x, S y z C, S G J K, S L M Q], blkE g 43 [S ax.1 ax.2.1 ax.2.2], ownE 64 3 encApiFinding ax.1 ax.2.1 ax.2.2 bb, blkE au 70 [.pointer (some ⟨g, 0, none⟩)]]) ?_ ?_
    ·refine cm_block <| sr <| la 1 ((39, I _) :: _) rfl <| lm_ck (fun bk => ?_)
     refine vi 40 7 az ay bk rfl rfl <| vr 41 az bk rfl <| al 7 [I 0, I 0, I 0, I 0, B false, I 0, I 0] (v := .agg #[I 0, I 0, I 0, I 0, B false, I 0, I 0]) rfl fun av => la 1 ((6, I _) :: _) rfl <| sA 0 [I _, I _, I _, I _, B _, I _, I _] [_, _, _, _, _, _, _] (H' := [blkE _ _ [_, _, _, _, _, _, _], _, _, _, _]) rfl rfl rfl rfl rfl rfl <| nn <| sr <| vf 43 12 12 rfl <| vc 44 1 rfl rfl rfl <| vf 45 0 0 rfl <| vf 46 0 0 rfl <| vc 47 0 rfl rfl rfl <| lc 48 (fun r1 hr1 w1 c1 => m_audit_sold_ok N w1 p0.Sales ((ix p0.Paid a.2).Claim.Serial) U Z a0 (bj.old c1) b9 r1 hr1) fun X bv => la 3 ((50, B _) :: (49, .agg _) :: (42, .tuple _) :: _) rfl <| al 8 [I 0, I 0, I 0, I 0, I 0] (v := .agg #[I 0, I 0, I 0, I 0, I 0]) rfl fun b6 => sA 0 [I _, I _, I _, I _, I _] [_, _, _, _, _] (H' := [blkE _ _ [_, _, _, _, _], _, _, _, _, _]) rfl rfl rfl rfl rfl rfl <| la 1 ((9, B _) :: _) rfl <| nn <| cm_join (σ := (List ApiFinding)) (ξ := Hdr) (fun b0 a3 => [(1, .pointer (some ⟨b5, 0, none⟩)), (4, .pointer (some ⟨g, 0, none⟩)), (5, .func (.func 58) #[] #[.pointer (some ⟨au, 0, none⟩)]), (6, I a.2), (7, .pointer (some ⟨av, 0, none⟩)), (35, S b d e), (36, I (List.length p0.Paid : Int)), (37, I a.2)]) (fun b0 a3 => [blkE b5 40 [I p0.Now, S a5 a6 a7, S a8 a9 aa, S ab ac ad, S ae af ag, S ah ai aj, I p0.Account.Gap, S ak am an, I p0.Inside, I p0.Bins, S ao aq ar, S Y a1 a2, S U Z a0, S i l o, S b d e, S q t x, S y z C, S G J K, S L M Q], blkE g 43 [S a3.1 a3.2.1 a3.2.2], ownE 64 3 encApiFinding a3.1 a3.2.1 a3.2.2 b0, blkE au 70 [.pointer (some ⟨g, 0, none⟩)], blkE av 152 [I ((ix p0.Paid a.2).Claim.Serial), I ((ix p0.Paid a.2).Claim.Machine), I ((ix p0.Paid a.2).Claim.Seq), I ((ix p0.Paid a.2).Claim.At), B ((ix p0.Paid a.2).Claim.Paid), I ((ix p0.Paid a.2).Product), I ((ix p0.Paid a.2).Amount)]]) ?_ ?_
     ·refine cm_seq <| cm_cutE [(72, B ((((!X.2) || (decide ((ix p0.Paid a.2).Product ≠ X.1.Product))) || (decide ((ix p0.Paid a.2).Product < 0))) || (decide ((List.length p0.Products : Int) ≤ (ix p0.Paid a.2).Product))))] ?_ ?_
      ·refine wq_bool 51 (by kernel_rfl) (fun w1 c1 => (op_move (v := B _) rfl)) (fun b3 => ?_) (fun b3 => ?_)
       ·refine qa 2 ((53, B false) :: (52, B false) :: _) rfl <| qf 54 5 5 rfl <| qc 55 1 rfl rfl rfl <| qf 56 0 0 rfl <| qc 57 0 rfl rfl rfl <| qd 58 (fun _ _ => op_neq rfl rfl) (fun b7 => ?_) (fun b7 => ?_)
        ·exact qa 14 ((72, B true) :: uz 71 6 ((65, B true) :: (64, B true) :: uz 63 3 ((60, B true) :: (59, B true) :: _))) rfl <| lb 22 rfl (by rw [b3, dt b7] <;> rfl)
        ·refine qa 2 ((60, B false) :: (59, B false) :: _) rfl <| qf 61 5 5 rfl <| qc 62 1 rfl rfl rfl <| qd 63 (fun _ _ => op_lss rfl rfl) (fun bc => ?_) (fun bc => ?_)
         ·exact qa 9 ((72, B true) :: uz 71 6 ((65, B true) :: (64, B true) :: _)) rfl <| lb 22 rfl (by rw [b3, df b7, dt bc] <;> rfl)
         ·exact qa 2 ((65, B false) :: (64, B false) :: _) rfl <| qf 66 5 5 rfl <| qc 67 1 rfl rfl rfl <| qf 68 11 11 rfl <| qc 69 2 rfl rfl rfl <| qn 70 b2 rfl <| qa 2 ((72, B _) :: (71, B _) :: _) rfl <| lb 22 rfl (by rw [b3, df b7, df bc] <;> rfl)
       ·exact qa 21 ((72, B true) :: uz 71 6 ((65, B true) :: (64, B true) :: uz 63 3 ((60, B true) :: (59, B true) :: uz 58 5 ((53, B true) :: (52, B true) :: _)))) rfl <| lb 22 rfl (by rw [b3] <;> rfl)
      refine xm_next <| cB rfl (fun bn => ?_) (fun bn => ?_)
      ·exact cm_region <| la 2 ((74, I _) :: (73, .func _ _ _) :: _) rfl <| lm_callH 75 (V := (fun (_r : Unit) (_u : Hdr) => (.tuple #[] : Value))) [blkE au 70 [.pointer (some ⟨g, 0, none⟩)], blkE g 43 [S f.1 f.2.1 f.2.2], ownE 64 3 encApiFinding f.1 f.2.1 f.2.2 a.1] [blkE b6 154 [I X.1.Product, I X.1.First, I X.1.Count, I X.1.Retailer, I X.1.At], blkE av 152 [I ((ix p0.Paid a.2).Claim.Serial), I ((ix p0.Paid a.2).Claim.Machine), I ((ix p0.Paid a.2).Claim.Seq), I ((ix p0.Paid a.2).Claim.At), B ((ix p0.Paid a.2).Claim.Paid), I ((ix p0.Paid a.2).Product), I ((ix p0.Paid a.2).Amount)], blkE b5 40 [I p0.Now, S a5 a6 a7, S a8 a9 aa, S ab ac ad, S ae af ag, S ah ai aj, I p0.Account.Gap, S ak am an, I p0.Inside, I p0.Bins, S ao aq ar, S Y a1 a2, S U Z a0, S i l o, S b d e, S q t x, S y z C, S G J K, S L M Q]] (O := (fun (_r : Unit) (u : Hdr) => [blkE au 70 [.pointer (some ⟨g, 0, none⟩)], blkE g 43 [S u.1 u.2.1 u.2.2], ownE 64 3 encApiFinding u.1 u.2.1 u.2.2 (a.1 ++ ([(ApiFinding.mk (5 : Int) a.2 (0 : Int))]))])) (sh [5, 3, 4, 0, 1, 2]) (by kernel_rfl) (fun w1 => op_callv rfl (by kernel_rfl)) (fun r1 hr1 w1 c1 => m_audit_collector_1_ok N w0 w1 [blkE b6 154 [I X.1.Product, I X.1.First, I X.1.Count, I X.1.Retailer, I X.1.At], blkE av 152 [I ((ix p0.Paid a.2).Claim.Serial), I ((ix p0.Paid a.2).Claim.Machine), I ((ix p0.Paid a.2).Claim.Seq), I ((ix p0.Paid a.2).Claim.At), B ((ix p0.Paid a.2).Claim.Paid), I ((ix p0.Paid a.2).Product), I ((ix p0.Paid a.2).Amount)], blkE b5 40 [I p0.Now, S a5 a6 a7, S a8 a9 aa, S ab ac ad, S ae af ag, S ah ai aj, I p0.Account.Gap, S ak am an, I p0.Inside, I p0.Bins, S ao aq ar, S Y a1 a2, S U Z a0, S i l o, S b d e, S q t x, S y z C, S G J K, S L M Q]] (5 : Int) a.2 (0 : Int) () a.1 au g f.1 f.2.1 f.2.2  c1 r1 hr1) fun bw bd => lm_nil <| xn (bd.1, bd.2.1, bd.2.2) [5, 1, 2, 0, 4]
      ·refine cm_seq <| cm_ck (fun be => ?_)
       refine cm_drawn [(85, B (decide ((ix p0.Paid a.2).Amount ≠ (ix p0.Products ((ix p0.Paid a.2).Product)).Deposit)))] (by kernel_rfl) (by kernel_rfl) ?_ ?_
       ·exact qf 76 6 6 rfl <| qc 77 1 rfl rfl rfl <| qf 78 11 11 rfl <| qc 79 2 rfl rfl rfl <| qf 80 5 5 rfl <| qc 81 1 rfl rfl rfl <| qi 82 5 b8 b2 be rfl rfl <| q_ 83 (fun _ _ => op_field (m := 2) rfl (by kernel_rfl)) <| q_ 84 (fun _ c1 => oL (v := I ((ix p0.Products ((ix p0.Paid a.2).Product)).Deposit)) ((b8.old c1).cell (j := 2) be.1 be.2 rfl)) <| qa 1 ((85, B _) :: _) rfl <| lq 10
       refine xm_next <| cc rfl (fun bo => ?_) (fun bo => ?_)
       ·exact cm_region <| la 2 ((87, I _) :: (86, .func _ _ _) :: _) rfl <| lm_callH 88 (V := (fun (_r : Unit) (_u : Hdr) => (.tuple #[] : Value))) [blkE au 70 [.pointer (some ⟨g, 0, none⟩)], blkE g 43 [S f.1 f.2.1 f.2.2], ownE 64 3 encApiFinding f.1 f.2.1 f.2.2 a.1] [blkE b6 154 [I X.1.Product, I X.1.First, I X.1.Count, I X.1.Retailer, I X.1.At], blkE av 152 [I ((ix p0.Paid a.2).Claim.Serial), I ((ix p0.Paid a.2).Claim.Machine), I ((ix p0.Paid a.2).Claim.Seq), I ((ix p0.Paid a.2).Claim.At), B ((ix p0.Paid a.2).Claim.Paid), I ((ix p0.Paid a.2).Product), I ((ix p0.Paid a.2).Amount)], blkE b5 40 [I p0.Now, S a5 a6 a7, S a8 a9 aa, S ab ac ad, S ae af ag, S ah ai aj, I p0.Account.Gap, S ak am an, I p0.Inside, I p0.Bins, S ao aq ar, S Y a1 a2, S U Z a0, S i l o, S b d e, S q t x, S y z C, S G J K, S L M Q]] (O := (fun (_r : Unit) (u : Hdr) => [blkE au 70 [.pointer (some ⟨g, 0, none⟩)], blkE g 43 [S u.1 u.2.1 u.2.2], ownE 64 3 encApiFinding u.1 u.2.1 u.2.2 (a.1 ++ ([(ApiFinding.mk (6 : Int) a.2 (0 : Int))]))])) (sh [5, 3, 4, 0, 1, 2]) (by kernel_rfl) (fun w1 => op_callv rfl (by kernel_rfl)) (fun r1 hr1 w1 c1 => m_audit_collector_1_ok N w0 w1 [blkE b6 154 [I X.1.Product, I X.1.First, I X.1.Count, I X.1.Retailer, I X.1.At], blkE av 152 [I ((ix p0.Paid a.2).Claim.Serial), I ((ix p0.Paid a.2).Claim.Machine), I ((ix p0.Paid a.2).Claim.Seq), I ((ix p0.Paid a.2).Claim.At), B ((ix p0.Paid a.2).Claim.Paid), I ((ix p0.Paid a.2).Product), I ((ix p0.Paid a.2).Amount)], blkE b5 40 [I p0.Now, S a5 a6 a7, S a8 a9 aa, S ab ac ad, S ae af ag, S ah ai aj, I p0.Account.Gap, S ak am an, I p0.Inside, I p0.Bins, S ao aq ar, S Y a1 a2, S U Z a0, S i l o, S b d e, S q t x, S y z C, S G J K, S L M Q]] (6 : Int) a.2 (0 : Int) () a.1 au g f.1 f.2.1 f.2.2  c1 r1 hr1) fun bz bf => lm_nil <| xn (bf.1, bf.2.1, bf.2.2) [5, 1, 2, 0, 4]
       ·exact cm_skip <| xn (f.1, f.2.1, f.2.2) [2, 3, 4, 5, 1]
     intro b0 a3
     refine sr <| vf 89 14 14 rfl <| vc 90 0 rfl rfl rfl <| v_ 91 (fun _ _ => op_makeFuncC [.pointer (some ⟨_, _, _⟩)] rfl) <| lc 92 (fun r1 hr1 w1 c1 => m_slices_IndexFunc_audit_Deposits_1_ok N w1 p0.Paid (ix p0.Paid a.2) b d e av (az.old c1) ay (c1.blk 4 rfl) r1 hr1) fun bl c0 => la 1 ((10, I _) :: _) rfl <| nn <| cm_join (σ := (List ApiFinding)) (ξ := Hdr) (fun b1 a4 => [(1, .pointer (some ⟨b5, 0, none⟩)), (4, .pointer (some ⟨g, 0, none⟩)), (5, .func (.func 58) #[] #[.pointer (some ⟨au, 0, none⟩)]), (6, I a.2), (7, .pointer (some ⟨av, 0, none⟩)), (35, S b d e), (36, I (List.length p0.Paid : Int)), (37, I a.2)]) (fun b1 a4 => [blkE b5 40 [I p0.Now, S a5 a6 a7, S a8 a9 aa, S ab ac ad, S ae af ag, S ah ai aj, I p0.Account.Gap, S ak am an, I p0.Inside, I p0.Bins, S ao aq ar, S Y a1 a2, S U Z a0, S i l o, S b d e, S q t x, S y z C, S G J K, S L M Q], blkE g 43 [S a4.1 a4.2.1 a4.2.2], ownE 64 3 encApiFinding a4.1 a4.2.1 a4.2.2 b1, blkE au 70 [.pointer (some ⟨g, 0, none⟩)], blkE av 152 [I ((ix p0.Paid a.2).Claim.Serial), I ((ix p0.Paid a.2).Claim.Machine), I ((ix p0.Paid a.2).Claim.Seq), I ((ix p0.Paid a.2).Claim.At), B ((ix p0.Paid a.2).Claim.Paid), I ((ix p0.Paid a.2).Product), I ((ix p0.Paid a.2).Amount)]]) ?_ ?_
     ·refine sr <| la 3 ((95, B _) :: (94, I _) :: (93, I _) :: _) rfl <| nn <| cc rfl (fun bp => ?_) (fun bp => ?_)
      ·exact cm_region <| la 3 ((98, I _) :: (97, I _) :: (96, .func _ _ _) :: _) rfl <| lm_callH 99 (V := (fun (_r : Unit) (_u : Hdr) => (.tuple #[] : Value))) [blkE au 70 [.pointer (some ⟨g, 0, none⟩)], blkE g 43 [S a3.1 a3.2.1 a3.2.2], ownE 64 3 encApiFinding a3.1 a3.2.1 a3.2.2 b0] [blkE b5 40 [I p0.Now, S a5 a6 a7, S a8 a9 aa, S ab ac ad, S ae af ag, S ah ai aj, I p0.Account.Gap, S ak am an, I p0.Inside, I p0.Bins, S ao aq ar, S Y a1 a2, S U Z a0, S i l o, S b d e, S q t x, S y z C, S G J K, S L M Q], blkE av 152 [I ((ix p0.Paid a.2).Claim.Serial), I ((ix p0.Paid a.2).Claim.Machine), I ((ix p0.Paid a.2).Claim.Seq), I ((ix p0.Paid a.2).Claim.At), B ((ix p0.Paid a.2).Claim.Paid), I ((ix p0.Paid a.2).Product), I ((ix p0.Paid a.2).Amount)]] (O := (fun (_r : Unit) (u : Hdr) => [blkE au 70 [.pointer (some ⟨g, 0, none⟩)], blkE g 43 [S u.1 u.2.1 u.2.2], ownE 64 3 encApiFinding u.1 u.2.1 u.2.2 (b0 ++ ([(ApiFinding.mk (7 : Int) a.2 bl)]))])) (sh [3, 1, 2, 0, 4]) (by kernel_rfl) (fun w1 => op_callv rfl (by kernel_rfl)) (fun r1 hr1 w1 c1 => m_audit_collector_1_ok N w0 w1 [blkE b5 40 [I p0.Now, S a5 a6 a7, S a8 a9 aa, S ab ac ad, S ae af ag, S ah ai aj, I p0.Account.Gap, S ak am an, I p0.Inside, I p0.Bins, S ao aq ar, S Y a1 a2, S U Z a0, S i l o, S b d e, S q t x, S y z C, S G J K, S L M Q], blkE av 152 [I ((ix p0.Paid a.2).Claim.Serial), I ((ix p0.Paid a.2).Claim.Machine), I ((ix p0.Paid a.2).Claim.Seq), I ((ix p0.Paid a.2).Claim.At), B ((ix p0.Paid a.2).Claim.Paid), I ((ix p0.Paid a.2).Product), I ((ix p0.Paid a.2).Amount)]] (7 : Int) a.2 bl () b0 au g a3.1 a3.2.1 a3.2.2  c1 r1 hr1) fun c2 bg => lm_nil <| xn (bg.1, bg.2.1, bg.2.2) [3, 1, 2, 0, 4]
      ·exact cm_skip <| xn (a3.1, a3.2.1, a3.2.2) [0, 1, 2, 3, 4]
     intro b1 a4
     refine sr <| vf 100 13 13 rfl <| vc 101 0 rfl rfl rfl <| vf 102 0 0 rfl <| vR 103 [I _, I _, I _, I _, B _] 4 rfl rfl rfl <| lc 104 (fun r1 hr1 w1 c1 => m_slices_Contains_91_ok N w1 p0.Claims ((ix p0.Paid a.2).Claim) i l o (bi.old c1) b4 r1 hr1) fun c3 c4 => la 1 ((105, B _) :: _) rfl <| nn <| cB rfl (fun bq => ?_) (fun bq => ?_)
     ·exact cm_region <| la 2 ((107, I _) :: (106, .func _ _ _) :: _) rfl <| lm_callH 108 (V := (fun (_r : Unit) (_u : Hdr) => (.tuple #[] : Value))) [blkE au 70 [.pointer (some ⟨g, 0, none⟩)], blkE g 43 [S a4.1 a4.2.1 a4.2.2], ownE 64 3 encApiFinding a4.1 a4.2.1 a4.2.2 b1] [blkE b5 40 [I p0.Now, S a5 a6 a7, S a8 a9 aa, S ab ac ad, S ae af ag, S ah ai aj, I p0.Account.Gap, S ak am an, I p0.Inside, I p0.Bins, S ao aq ar, S Y a1 a2, S U Z a0, S i l o, S b d e, S q t x, S y z C, S G J K, S L M Q], blkE av 152 [I ((ix p0.Paid a.2).Claim.Serial), I ((ix p0.Paid a.2).Claim.Machine), I ((ix p0.Paid a.2).Claim.Seq), I ((ix p0.Paid a.2).Claim.At), B ((ix p0.Paid a.2).Claim.Paid), I ((ix p0.Paid a.2).Product), I ((ix p0.Paid a.2).Amount)]] (O := (fun (_r : Unit) (u : Hdr) => [blkE au 70 [.pointer (some ⟨g, 0, none⟩)], blkE g 43 [S u.1 u.2.1 u.2.2], ownE 64 3 encApiFinding u.1 u.2.1 u.2.2 (b1 ++ ([(ApiFinding.mk (8 : Int) a.2 (0 : Int))]))])) (sh [3, 1, 2, 0, 4]) (by kernel_rfl) (fun w1 => op_callv rfl (by kernel_rfl)) (fun r1 hr1 w1 c1 => m_audit_collector_1_ok N w0 w1 [blkE b5 40 [I p0.Now, S a5 a6 a7, S a8 a9 aa, S ab ac ad, S ae af ag, S ah ai aj, I p0.Account.Gap, S ak am an, I p0.Inside, I p0.Bins, S ao aq ar, S Y a1 a2, S U Z a0, S i l o, S b d e, S q t x, S y z C, S G J K, S L M Q], blkE av 152 [I ((ix p0.Paid a.2).Claim.Serial), I ((ix p0.Paid a.2).Claim.Machine), I ((ix p0.Paid a.2).Claim.Seq), I ((ix p0.Paid a.2).Claim.At), B ((ix p0.Paid a.2).Claim.Paid), I ((ix p0.Paid a.2).Product), I ((ix p0.Paid a.2).Amount)]] (8 : Int) a.2 (0 : Int) () b1 au g a4.1 a4.2.1 a4.2.2  c1 r1 hr1) fun c5 bh => lm_nil <| xm_inN <| xn (bh.1, bh.2.1, bh.2.2) [3, 1, 2, 0]
     ·exact cm_skip <| xm_inN <| xn (a4.1, a4.2.1, a4.2.2) [0, 1, 2, 3]
    intro bb ax
    refine cm_region <| lm_ck (fun br => ?_)
    exact va 109 br rfl rfl <| la 1 ((37, I _) :: _) rfl <| lm_nil <| xn (ax.1, ax.2.1, ax.2.2) [0, 1, 2, 3]
   ·exact cm_exit <| xm_thenE <| xm_lexit <| xm_here <| xn (f.1, f.2.1, f.2.2) [1, 2]
  intro ba aw
  exact sr <| vc 110 0 rfl rfl rfl <| la 2 ((3, I _) :: (2, S _ _ _) :: _) rfl <| nn <| cm_ret <| xrr [1] (aw.1, aw.2.1, aw.2.2)
end Go.Proofs.YtbnimhmoffchdaaGreatDoor
