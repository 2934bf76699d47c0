/- Models of functions, and that the code follows them. Written by deco.py. -/
import Derived.Test.YtbnimhmoffchdaaGreatDoorZP6
namespace Go.Proofs.YtbnimhmoffchdaaGreatDoor
open Go.RowKit
set_option linter.unusedSectionVars false
variable [JF]

theorem op_eqApiFinding {e : Env} {w : World} {d : Option Tmp} {ty : TypeId} {ps : String} {af : Array Edge} {g : Option (Nat × Bool)} {x y : Operand} (a b : ApiFinding) (hx : eev e x = .agg (encApiFinding a).toArray) (hy : eev e y = .agg (encApiFinding b).toArray) : OpV Tryz.prog e w ⟨d, .binOp .eql 64 x y 64, ty, ps, af, g⟩ (.bool (decide (a = b))) :=
 op_eqFlat (cs := encApiFinding a) (ds := encApiFinding b) hx hy Tryz.underlying64 (by kernel_rfl) (by kernel_rfl) (by kernel_rfl) (by cases a; cases b; simp [celsEq, celEq, encApiFinding])
theorem op_neApiFinding {e : Env} {w : World} {d : Option Tmp} {ty : TypeId} {ps : String} {af : Array Edge} {g : Option (Nat × Bool)} {x y : Operand} (a b : ApiFinding) (hx : eev e x = .agg (encApiFinding a).toArray) (hy : eev e y = .agg (encApiFinding b).toArray) : OpV Tryz.prog e w ⟨d, .binOp .neq 64 x y 64, ty, ps, af, g⟩ (.bool (decide (a ≠ b))) := by
 have h := op_neqFlat (t' := 64) (d := d) (ty := ty) (ps := ps) (af := af) (g := g) (w := w) (cs := encApiFinding a) (ds := encApiFinding b) (b := decide (a = b)) hx hy Tryz.underlying64 (by kernel_rfl) (by kernel_rfl) (by kernel_rfl) (by cases a; cases b; simp [celsEq, celEq, encApiFinding])
 rwa [← decide_not] at h
/-- recyclingref59.Same -/
def m_recyclingref59_Same (N : Nat) (p0 : (List ApiFinding)) (p1 : (List ApiFinding)) : Option (Bool) :=
 (if (List.length p0 : Int) ≠ (List.length p1 : Int) then
  some (false)
 else
  (andThen
   (loopM (fun (a : Int) =>
    (if a < (List.length p0 : Int) then
     ck ((0 : Int) ≤ a ∧ a < (List.length p0 : Int)) (
      ck ((0 : Int) ≤ a ∧ a < (List.length p1 : Int)) (
       (if (ix p0 a) ≠ (ix p1 a) then
        some (.done (.done (false)))
       else
        ck (I64 (a + (1 : Int))) (
         some (.next (a + (1 : Int)))))))
    else
     some (.done (.next ())))) N (0 : Int))
  fun (_s27 : Unit) =>
   some (true)))
set_option maxRecDepth 20000 in
theorem m_recyclingref59_Same_ok (N : Nat) (w0 : World) (p0 : (List ApiFinding)) (p1 : (List ApiFinding)) (b : Option Addr) (i : Nat) (j : Nat) (d : Option Addr) (l : Nat) (m : Nat) (o : RdE w0 3 encApiFinding b p0) (e : SW b i j (List.length p0)) (q : RdE w0 3 encApiFinding d p1) (t : SW d l m (List.length p1)) (r : Bool) (hr : m_recyclingref59_Same N p0 p1 = some r) :
  Ret Tryz.prog 10 [.slice b i j, .slice d l m] w0 (fun (r : Bool) (_u : Unit) => .bool r) (fun (_r : Bool) (_u : Unit) => []) r := by
 refine calls_v (n := 26) r hr Tryz.func10 ?_
 unfold m_recyclingref59_Same
 refine sr <| la 1 ((4, .bool false) :: _) rfl <| nn <| cm_seq <| sr <| la 1 ((6, .slice _ _ _) :: _) rfl <| v_ 7 (fun _ _ => op_lenN rfl (by kernel_rfl) e.2.2) <| la 1 ((8, .slice _ _ _) :: _) rfl <| v_ 9 (fun _ _ => op_lenN rfl (by kernel_rfl) t.2.2) <| la 1 ((10, .bool _) :: _) rfl <| nn <| cm_cond (by kernel_rfl) rfl (fun h5 => ?_) (fun h5 => ?_)
 ·refine sr <| la 1 ((4, .bool false) :: _) rfl <| nn <| cm_ret <| xm_thenR ?_
  exact xm_retT rfl (by kernel_rfl) (show _ = Value.bool false from rfl) fun w1 c1 => ⟨(), rfl, hsub [] (by kernel_rfl) rfl w1 c1⟩
 ·refine sk <| cm_join (σ := Unit) (ξ := Unit) (fun v x => []) (fun v x => []) ?_ ?_
  ·refine sr <| la 1 ((5, .int .i64 _) :: _) rfl <| nn <| cm_block <| cm_loop (σ := Int) (ξ := Unit) (fun a y => [(0, .slice b i j), (1, .slice d l m), (5, .int .i64 a)]) (fun a y => []) () ?_ ?_ ?_
   ·exact sq
   ·exact sh []
   intro a y
   refine cm_seq <| sr <| la 2 ((12, .slice _ _ _) :: (11, .int .i64 _) :: _) rfl <| v_ 13 (fun _ _ => op_lenN rfl (by kernel_rfl) e.2.2) <| la 1 ((14, .bool _) :: _) rfl <| nn <| cm_cond (by kernel_rfl) rfl (fun z => ?_) (fun z => ?_)
   ·refine sk <| cm_seq <| cm_block <| cm_seq <| cm_ck (fun f => ?_)
    refine cm_ck (fun g => ?_)
    refine cm_drawn [(25, .bool (decide ((ix p0 a) ≠ (ix p1 a))))] (by kernel_rfl) (by kernel_rfl) ?_ ?_
    ·refine qa 2 ((18, .int .i64 _) :: (17, .slice _ _ _) :: _) rfl <| q_ 19 (fun _ c1 => oI 3 rfl rfl ((o.old c1).addr f.1 f.2) e.2.2 f) <| q_ 20 (fun _ c1 => oR [.int .i64 ((ix p0 a).Kind), .int .i64 ((ix p0 a).A), .int .i64 ((ix p0 a).B)] ((o.old c1).row f.1 f.2)) <| qa 2 ((22, .int .i64 _) :: (21, .slice _ _ _) :: _) rfl <| q_ 23 (fun _ c1 => oI 3 rfl rfl ((q.old c1).addr g.1 g.2) t.2.2 g) <| q_ 24 (fun _ c1 => oR [.int .i64 ((ix p1 a).Kind), .int .i64 ((ix p1 a).A), .int .i64 ((ix p1 a).B)] ((q.old c1).row g.1 g.2)) <| q_ 25 (fun _ _ => op_neApiFinding (ix p0 a) (ix p1 a) rfl rfl) ?_
     exact lq 9
    refine xm_next <| cm_cond (by kernel_rfl) rfl (fun C => ?_) (fun C => ?_)
    ·refine sr <| la 1 ((4, .bool false) :: _) rfl <| nn <| cm_ret <| xm_inR <| xm_thenR <| xm_lret <| xm_inR <| xm_lret ?_
     exact xm_retT rfl (by kernel_rfl) (show _ = Value.bool false from rfl) fun w1 c1 => ⟨(), rfl, hsub [] (by kernel_rfl) rfl w1 c1⟩
    ·refine cm_skip <| xm_inN <| xm_next <| cm_region <| la 1 ((15, .int .i64 _) :: _) rfl <| lm_ck (fun G => ?_)
     refine v_ 16 (fun _ _ => op_add rfl rfl G) <| la 1 ((5, .int .i64 _) :: _) rfl <| lm_nil ?_
     exact xm_lnext () sq (sh [])
   ·refine cm_exit <| xm_thenE <| xm_lexit <| xm_here ?_
    exact xm_lnext () sub_nil (sh [])
  intro v x
  refine sr <| la 1 ((4, .bool true) :: _) rfl <| nn <| cm_ret ?_
  exact xm_retT rfl (by kernel_rfl) (show _ = Value.bool true from rfl) fun w1 c1 => ⟨(), rfl, hsub [] (by kernel_rfl) rfl w1 c1⟩
/-- recyclinglaw59.light -/
def m_recyclinglaw59_light (N : Nat) (p0 : ApiBooks) : Option (Bool) :=
 (if (((decide (60 < (List.length p0.Account.Emptyings : Int))) || (decide (60 < (List.length p0.Account.Assigns : Int)))) || (decide (20 < (List.length p0.Bills : Int)))) = true then
  some (false)
 else
  (andThen
   (loopM (fun (a : Int) =>
    (if a < (List.length p0.Bills : Int) then
     ck ((0 : Int) ≤ a ∧ a < (List.length p0.Bills : Int)) (
      ck ((0 : Int) ≤ a ∧ a < (List.length p0.Bills : Int)) (
       (if ((decide (60 < (List.length ((ix p0.Bills a).Items) : Int))) || (((decide (0 ≤ (ix p0.Bills a).When.From)) && (decide ((ix p0.Bills a).When.To ≤ 36525))) && (decide (400 < (wr64 (((ix p0.Bills a).When.To) - ((ix p0.Bills a).When.From))))))) = true then
        some (.done (.done (false)))
       else
        ck (I64 (a + (1 : Int))) (
         some (.next (a + (1 : Int)))))))
    else
     some (.done (.next ())))) N (0 : Int))
  fun (_s42 : Unit) =>
   some (true)))
set_option maxHeartbeats 2000000 in
set_option maxRecDepth 20000 in
theorem m_recyclinglaw59_light_ok (N : Nat) (w0 : World) (p0 : ApiBooks) (C : Option Addr) (a9 : Nat) (aa : Nat) (G : Option Addr) (ab : Nat) (ac : Nat) (J : Option Addr) (ad : Nat) (ae : Nat) (K : Option Addr) (af : Nat) (ag : Nat) (L : Option Addr) (ah : Nat) (ai : Nat) (M : Option Addr) (aj : Nat) (ak : Nat) (O : Option Addr) (al : Nat) (am : Nat) (e : Int → Hdr) (Q : Option Addr) (an : Nat) (ao : Nat) (U : Option Addr) (ap : Nat) (aq : Nat) (l : Option Addr) (V : Nat) (X : Nat) (q : Option Addr) (Y : Nat) (Z : Nat) (t : Option Addr) (a0 : Nat) (a1 : Nat) (y : Option Addr) (a2 : Nat) (a3 : Nat) (z : Option Addr) (a4 : Nat) (a5 : Nat) (a : Int → Hdr) (B : Option Addr) (a6 : Nat) (a7 : Nat) (d : Int → Hdr) (_hr_p01 : RdE w0 2 encApiHousehold C p0.Account.Households) (_hz_p01 : SW C a9 aa (List.length p0.Account.Households)) (_hr_p02 : RdE w0 5 encApiContainer G p0.Account.Containers) (_hz_p02 : SW G ab ac (List.length p0.Account.Containers)) (_hr_p03 : RdE w0 4 encApiAssign J p0.Account.Assigns) (ax : SW J ad ae (List.length p0.Account.Assigns)) (_hr_p04 : RdE w0 7 encApiEmptying K p0.Account.Emptyings) (ay : SW K af ag (List.length p0.Account.Emptyings)) (_hr_p05 : RdE w0 5 encApiTariff L p0.Account.Tariffs) (_hz_p05 : SW L ah ai (List.length p0.Account.Tariffs)) (_hr_p06 : RdE w0 4 encApiTransfer M p0.Transfers) (_hz_p06 : SW M aj ak (List.length p0.Transfers)) (_hr_p07 : RdI w0 4 (fun (i : Int) (x : ApiBale) => encApiBale x (e i)) O p0.Bales) (_hz_p07 : SW O al am (List.length p0.Bales)) (_hN1_p07 : ∀ i : Int, 0 ≤ i ∧ i < (List.length p0.Bales : Int) → RdE w0 1 encI (e i).1 (ix p0.Bales i).Mix ∧ SW (e i).1 (e i).2.1 (e i).2.2 (List.length (ix p0.Bales i).Mix)) (_hr_p08 : RdE w0 5 encApiProduct Q p0.Products) (_hz_p08 : SW Q an ao (List.length p0.Products)) (_hr_p09 : RdE w0 5 encApiSale U p0.Sales) (_hz_p09 : SW U ap aq (List.length p0.Sales)) (_hr_p010 : RdE w0 5 encApiClaim l p0.Claims) (_hz_p010 : SW l V X (List.length p0.Claims)) (_hr_p011 : RdE w0 7 encApiPayout q p0.Paid) (_hz_p011 : SW q Y Z (List.length p0.Paid)) (_hr_p012 : RdE w0 1 encI t p0.Costs) (_hz_p012 : SW t a0 a1 (List.length p0.Costs)) (_hr_p013 : RdE w0 3 encApiFee y p0.Fees) (_hz_p013 : SW y a2 a3 (List.length p0.Fees)) (f : RdI w0 6 (fun (i : Int) (x : ApiBill) => encApiBill x (a i)) z p0.Bills) (g : SW z a4 a5 (List.length p0.Bills)) (av : ∀ i : Int, 0 ≤ i ∧ i < (List.length p0.Bills : Int) → RdE w0 5 encApiItem (a i).1 (ix p0.Bills i).Items ∧ SW (a i).1 (a i).2.1 (a i).2.2 (List.length (ix p0.Bills i).Items)) (_hr_p015 : RdI w0 3 (fun (i : Int) (x : ApiPosting) => encApiPosting x (d i)) B p0.Postings) (_hz_p015 : SW B a6 a7 (List.length p0.Postings)) (_hN1_p015 : ∀ i : Int, 0 ≤ i ∧ i < (List.length p0.Postings : Int) → RdE w0 2 encApiLine (d i).1 (ix p0.Postings i).Lines ∧ SW (d i).1 (d i).2.1 (d i).2.2 (List.length (ix p0.Postings i).Lines)) (r : Bool) (hr : m_recyclinglaw59_light N p0 = some r) :
  Ret Tryz.prog 6 [.agg #[.int .i64 p0.Now, .slice C a9 aa, .slice G ab ac, .slice J ad ae, .slice K af ag, .slice L ah ai, .int .i64 p0.Account.Gap, .slice M aj ak, .int .i64 p0.Inside, .int .i64 p0.Bins, .slice O al am, .slice Q an ao, .slice U ap aq, .slice l V X, .slice q Y Z, .slice t a0 a1, .slice y a2 a3, .slice z a4 a5, .slice B a6 a7]] w0 (fun (r : Bool) (_u : Unit) => .bool r) (fun (_r : Bool) (_u : Unit) => []) r := by
 refine calls_v (n := 62) r hr Tryz.func6 ?_
 unfold m_recyclinglaw59_light
 refine sr <| lm_box 1 [.int .i64 _, .slice _ _ _, .slice _ _ _, .slice _ _ _, .slice _ _ _, .slice _ _ _, .int .i64 _, .slice _ _ _, .int .i64 _, .int .i64 _, .slice _ _ _, .slice _ _ _, .slice _ _ _, .slice _ _ _, .slice _ _ _, .slice _ _ _, .slice _ _ _, .slice _ _ _, .slice _ _ _] (by kernel_rfl) rfl ?_
 intro b5
 refine la 1 ((2, .bool false) :: _) rfl <| nn <| cm_seq <| cm_seq <| cm_cutE [(22, .bool (((decide (60 < (List.length p0.Account.Emptyings : Int))) || (decide (60 < (List.length p0.Account.Assigns : Int)))) || (decide (20 < (List.length p0.Bills : Int)))))] ?_ ?_
 ·refine q_ 5 (fun _ _ => oF 1 1 rfl) <| q_ 6 (fun _ _ => oF 3 4 rfl) <| q_ 7 (fun _ c1 => oL (c1.cell 0 (u := .slice _ _ _) rfl rfl)) <| q_ 8 (fun _ _ => op_lenN rfl (by kernel_rfl) ay.2.2) <| qd 9 (fun _ _ => op_gtr rfl rfl) (fun h6 => ?_) (fun h6 => ?_)
  ·refine qa 13 ((22, .bool true) :: (21, undef) :: (20, undef) :: (19, undef) :: (18, undef) :: (17, .bool true) :: (16, .bool true) :: (15, undef) :: (14, undef) :: (13, undef) :: (12, undef) :: (11, undef) :: (10, .bool true) :: _) rfl ?_
   exact leaf_q (sub_out 18 _ rfl (by kernel_rfl) ⟨(congrArg Value.bool (by rw [decide_eq_true h6] <;> rfl)), trivial⟩)
  ·refine qa 1 ((10, .bool false) :: _) rfl <| q_ 11 (fun _ _ => oF 1 1 rfl) <| q_ 12 (fun _ _ => oF 2 3 rfl) <| q_ 13 (fun _ c1 => oL (c1.cell 0 (u := .slice _ _ _) rfl rfl)) <| q_ 14 (fun _ _ => op_lenN rfl (by kernel_rfl) ax.2.2) <| qd 15 (fun _ _ => op_gtr rfl rfl) (fun h7 => ?_) (fun h7 => ?_)
   ·refine qa 7 ((22, .bool true) :: (21, undef) :: (20, undef) :: (19, undef) :: (18, undef) :: (17, .bool true) :: (16, .bool true) :: _) rfl ?_
    exact leaf_q (sub_out 18 _ rfl (by kernel_rfl) ⟨(congrArg Value.bool (by rw [decide_eq_false h6, decide_eq_true h7] <;> rfl)), trivial⟩)
   ·refine qa 2 ((17, .bool false) :: (16, .bool false) :: _) rfl <| q_ 18 (fun _ _ => oF 17 17 rfl) <| q_ 19 (fun _ c1 => oL (c1.cell 0 (u := .slice _ _ _) rfl rfl)) <| q_ 20 (fun _ _ => op_lenN rfl (by kernel_rfl) g.2.2) <| qa 2 ((22, .bool _) :: (21, .bool _) :: _) rfl ?_
    exact leaf_q (sub_out 18 _ rfl (by kernel_rfl) ⟨(congrArg Value.bool (by rw [decide_eq_false h6, decide_eq_false h7] <;> rfl)), trivial⟩)
 refine xm_next <| cm_condB (by kernel_rfl) rfl (fun h8 => ?_) (fun h8 => ?_)
 ·refine sr <| la 1 ((2, .bool false) :: _) rfl <| nn <| cm_ret <| xm_thenR ?_
  exact xm_retT rfl (by kernel_rfl) (show _ = Value.bool false from rfl) fun w1 c1 => ⟨(), rfl, hsub [] (by kernel_rfl) rfl w1 c1⟩
 ·refine sk <| cm_join (σ := Unit) (ξ := Unit) (fun b0 b1 => []) (fun b0 b1 => []) ?_ ?_
  ·refine sr <| v_ 23 (fun _ _ => oF 17 17 rfl) <| v_ 24 (fun _ c1 => oL (c1.cell 0 (u := .slice _ _ _) rfl rfl)) <| v_ 25 (fun _ _ => op_lenN rfl (by kernel_rfl) g.2.2) <| la 1 ((26, .int .i64 _) :: _) rfl <| nn <| cm_block <| cm_loop (σ := Int) (ξ := Unit) (fun b b2 => [(1, .pointer (some ⟨b5, 0, none⟩)), (25, .int .i64 (List.length p0.Bills : Int)), (26, .int .i64 b)]) (fun b b2 => [blkE b5 40 [.int .i64 p0.Now, .slice C a9 aa, .slice G ab ac, .slice J ad ae, .slice K af ag, .slice L ah ai, .int .i64 p0.Account.Gap, .slice M aj ak, .int .i64 p0.Inside, .int .i64 p0.Bins, .slice O al am, .slice Q an ao, .slice U ap aq, .slice l V X, .slice q Y Z, .slice t a0 a1, .slice y a2 a3, .slice z a4 a5, .slice B a6 a7]]) () ?_ ?_ ?_
   ·exact sq
   ·exact sh [0]
   intro b b2
   refine sr <| la 1 ((27, .bool _) :: _) rfl <| nn <| cm_seq <| cm_cond (by kernel_rfl) rfl (fun b3 => ?_) (fun b3 => ?_)
   ·refine sk <| cm_seq <| cm_block <| sr <| la 2 ((3, .int .i64 _) :: (28, .int .i64 _) :: _) rfl <| nn <| sr <| v_ 29 (fun _ _ => oF 17 17 rfl) <| v_ 30 (fun _ c1 => oL (c1.cell 0 (u := .slice _ _ _) rfl rfl)) <| la 1 ((31, .int .i64 _) :: _) rfl <| lm_ck (fun ar => ?_)
    refine v_ 32 (fun _ c1 => oI 6 rfl rfl ((f.old c1).addr ar.1 ar.2) g.2.2 ar) <| v_ 33 (fun _ _ => op_field (m := 2) rfl (by kernel_rfl)) <| v_ 34 (fun _ c1 => oR [.int .i64 ((ix p0.Bills b).When.From), .int .i64 ((ix p0.Bills b).When.To)] ((f.old c1).part (o := 2) ar.1 ar.2 rfl)) <| lm_alloc 4 [.int .i64 0, .int .i64 0] (v := .agg #[.int .i64 0, .int .i64 0]) (by kernel_rfl) (by kernel_rfl) rfl ?_
    intro b7
    refine lm_storeA 0 [.int .i64 _, .int .i64 _] [_, _] (H' := [blkE _ _ [_, _], _]) (by kernel_rfl) rfl rfl (by kernel_rfl) rfl rfl (by kernel_rfl) rfl rfl <| nn <| cm_seq <| cm_ck (fun a8 => ?_)
    refine cm_cutE [(60, .bool ((decide (60 < (List.length ((ix p0.Bills b).Items) : Int))) || (((decide (0 ≤ (ix p0.Bills b).When.From)) && (decide ((ix p0.Bills b).When.To ≤ 36525))) && (decide (400 < (wr64 (((ix p0.Bills b).When.To) - ((ix p0.Bills b).When.From))))))))] ?_ ?_
    ·refine q_ 35 (fun _ _ => oF 17 17 rfl) <| q_ 36 (fun _ c1 => oL (c1.cell 1 (u := .slice _ _ _) rfl rfl)) <| qa 1 ((37, .int .i64 _) :: _) rfl <| q_ 38 (fun _ c1 => oI 6 rfl rfl ((f.old c1).addr a8.1 a8.2) g.2.2 a8) <| q_ 39 (fun _ _ => op_field (m := 4) rfl (by kernel_rfl)) <| q_ 40 (fun _ c1 => oL (v := .slice ((a b).1) ((a b).2.1) ((a b).2.2)) ((f.old c1).cell (j := 4) a8.1 a8.2 rfl)) <| q_ 41 (fun _ _ => op_lenN rfl (by kernel_rfl) (av b a8).2.2.2) <| qd 42 (fun _ _ => op_gtr rfl rfl) (fun au => ?_) (fun au => ?_)
     ·refine qa 18 ((60, .bool true) :: (59, undef) :: (58, undef) :: (57, undef) :: (56, undef) :: (55, undef) :: (54, undef) :: (53, undef) :: (52, undef) :: (51, undef) :: (50, undef) :: (49, undef) :: (48, undef) :: (47, undef) :: (46, undef) :: (45, undef) :: (44, undef) :: (43, .bool true) :: _) rfl ?_
      exact leaf_q (sub_out 26 _ rfl (by kernel_rfl) ⟨(congrArg Value.bool (by rw [decide_eq_true au] <;> rfl)), trivial⟩)
     ·refine qa 1 ((43, .bool false) :: _) rfl <| q_ 44 (fun _ _ => oF 0 0 rfl) <| q_ 45 (fun _ c1 => oL (c1.cell 0 (u := .int .i64 _) rfl rfl)) <| qd 46 (fun _ _ => op_geq rfl rfl) (fun aw => ?_) (fun aw => ?_)
      ·refine qa 1 ((47, .bool true) :: _) rfl <| q_ 48 (fun _ _ => oF 1 1 rfl) <| q_ 49 (fun _ c1 => oL (c1.cell 0 (u := .int .i64 _) rfl rfl)) <| qd 50 (fun _ _ => op_leq rfl rfl) (fun az => ?_) (fun az => ?_)
       ·refine qa 2 ((52, .bool true) :: (51, .bool true) :: _) rfl <| q_ 53 (fun _ _ => oF 1 1 rfl) <| q_ 54 (fun _ c1 => oL (c1.cell 0 (u := .int .i64 _) rfl rfl)) <| q_ 55 (fun _ _ => oF 0 0 rfl) <| q_ 56 (fun _ c1 => oL (c1.cell 0 (u := .int .i64 _) rfl rfl)) <| q_ 57 (fun _ _ => op_subW rfl rfl) <| qa 3 ((60, .bool _) :: (59, .bool _) :: (58, .bool _) :: _) rfl ?_
        exact leaf_q (sub_out 26 _ rfl (by kernel_rfl) ⟨(congrArg Value.bool (by rw [decide_eq_false au, decide_eq_true aw, decide_eq_true az] <;> rfl)), trivial⟩)
       ·refine qa 10 ((60, .bool false) :: (59, .bool false) :: (58, undef) :: (57, undef) :: (56, undef) :: (55, undef) :: (54, undef) :: (53, undef) :: (52, .bool false) :: (51, .bool false) :: _) rfl ?_
        exact leaf_q (sub_out 26 _ rfl (by kernel_rfl) ⟨(congrArg Value.bool (by rw [decide_eq_false au, decide_eq_true aw, decide_eq_false az] <;> rfl)), trivial⟩)
      ·refine qa 14 ((60, .bool false) :: (59, .bool false) :: (58, undef) :: (57, undef) :: (56, undef) :: (55, undef) :: (54, undef) :: (53, undef) :: (52, .bool false) :: (51, .bool false) :: (50, undef) :: (49, undef) :: (48, undef) :: (47, .bool false) :: _) rfl ?_
       exact leaf_q (sub_out 26 _ rfl (by kernel_rfl) ⟨(congrArg Value.bool (by rw [decide_eq_false au, decide_eq_false aw] <;> rfl)), trivial⟩)
    refine xm_next <| cm_condB (by kernel_rfl) rfl (fun b4 => ?_) (fun b4 => ?_)
    ·refine sr <| la 1 ((2, .bool false) :: _) rfl <| nn <| cm_ret <| xm_inR <| xm_thenR <| xm_lret <| xm_inR <| xm_lret ?_
     exact xm_retT rfl (by kernel_rfl) (show _ = Value.bool false from rfl) fun w1 c1 => ⟨(), rfl, hsub [] (by kernel_rfl) rfl w1 c1⟩
    ·refine cm_skip <| xm_inN <| xm_next <| cm_region <| lm_ck (fun b6 => ?_)
     refine v_ 61 (fun _ _ => op_add rfl rfl b6) <| la 1 ((26, .int .i64 _) :: _) rfl <| lm_nil ?_
     exact xm_lnext () sq (sh [1])
   ·refine cm_exit <| xm_thenE <| xm_lexit <| xm_here ?_
    exact xm_lnext () sub_nil (sh [])
  intro b0 b1
  refine sr <| la 1 ((2, .bool true) :: _) rfl <| nn <| cm_ret ?_
  exact xm_retT rfl (by kernel_rfl) (show _ = Value.bool true from rfl) fun w1 c1 => ⟨(), rfl, hsub [] (by kernel_rfl) rfl w1 c1⟩
end Go.Proofs.YtbnimhmoffchdaaGreatDoor
