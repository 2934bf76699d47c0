/- Models of functions, and that the code follows them. Written by deco.py. -/
import Derived.Test.YtbnimhmoffchdaaGreatDoorZP6
namespace Go.Proofs.YtbnimhmoffchdaaGreatDoor
open Go.RowKit
set_option linter.unusedSectionVars false
variable [JF]

theorem op_eqApiFinding {e : Env} {w : World} {d : Option Tmp} {ty : TypeId} {ps : String} {af : Array Edge} {g : Option (Nat × Bool)} {x y : Operand} (a b : ApiFinding) (hx : eev e x = .agg (encApiFinding a).toArray) (hy : eev e y = .agg (encApiFinding b).toArray) : OpV Tryz.prog e w ⟨d, .binOp .eql 64 x y 64, ty, ps, af, g⟩ (.bool (decide (a = b))) :=
 op_eqFlat (cs := encApiFinding a) (ds := encApiFinding b) hx hy Tryz.underlying64 (by kernel_rfl) (by kernel_rfl) (by kernel_rfl) (by cases a; cases b; simp [celsEq, celEq, encApiFinding])
theorem op_neApiFinding {e : Env} {w : World} {d : Option Tmp} {ty : TypeId} {ps : String} {af : Array Edge} {g : Option (Nat × Bool)} {x y : Operand} (a b : ApiFinding) (hx : eev e x = .agg (encApiFinding a).toArray) (hy : eev e y = .agg (encApiFinding b).toArray) : OpV Tryz.prog e w ⟨d, .binOp .neq 64 x y 64, ty, ps, af, g⟩ (.bool (decide (a ≠ b))) := by
 have h := op_neqFlat (t' := 64) (d := d) (ty := ty) (ps := ps) (af := af) (g := g) (w := w) (cs := encApiFinding a) (ds := encApiFinding b) (b := decide (a = b)) hx hy Tryz.underlying64 (by kernel_rfl) (by kernel_rfl) (by kernel_rfl) (by cases a; cases b; simp [celsEq, celEq, encApiFinding])
 rwa [← decide_not] at h
/-- recyclingref59.Same -/
def m_recyclingref59_Same (N : Nat) (p0 : (List ApiFinding)) (p1 : (List ApiFinding)) : Option (Bool) :=
 (if (List.length p0 : Int) ≠ (List.length p1 : Int) then
  some (false)
 else
  (andThen
   (loopM (fun (a : Int) =>
    (if a < (List.length p0 : Int) then
     ck (0 ≤ a ∧ a < (List.length p0 : Int)) (
      ck (0 ≤ a ∧ a < (List.length p1 : Int)) (
       (if (ix p0 a) ≠ (ix p1 a) then
        some (.done (.done (false)))
       else
        ck (I64 (a + 1)) (
         some (.next (a + 1))))))
    else
     some (.done (.next ())))) N 0)
  fun (_s27 : Unit) =>
   some (true)))
set_option maxRecDepth 20000 in
theorem m_recyclingref59_Same_ok (N : Nat) (w0 : World) (p0 : (List ApiFinding)) (p1 : (List ApiFinding)) (b : Ad) (f g : Nat) (d : Ad) (i j : Nat) (l : RdE w0 3 encApiFinding b p0) (e : SW b f g (List.length p0)) (m : RdE w0 3 encApiFinding d p1) (o : SW d i j (List.length p1)) (r : Bool) (hr : m_recyclingref59_Same N p0 p1 = some r) :
  Ret Tryz.prog 10 [S b f g, S d i j] w0 VB H0 r := by
 refine calls_v (n := 26) r hr Tryz.func10 ?_
 unfold m_recyclingref59_Same
 refine sr <| la 1 ((4, B false) :: _) rfl <| nn <| cm_seq <| sr <| la 1 ((6, S _ _ _) :: _) rfl <| vn 7 e rfl <| la 1 ((8, S _ _ _) :: _) rfl <| vn 9 o rfl <| la 1 ((10, B _) :: _) rfl <| nn <| cc rfl (fun h5 => ?_) (fun h5 => ?_)
 ·exact sr <| la 1 ((4, B false) :: _) rfl <| nn <| cm_ret <| xm_thenR <| xr [] ()
 ·refine sk <| cm_join (σ := Unit) (ξ := Unit) (fun q t => []) (fun q t => []) ?_ ?_
  ·refine sr <| la 1 ((5, I _) :: _) rfl <| nn <| cm_block <| cm_loop (σ := Int) (ξ := Unit) (fun a v => [(0, S b f g), (1, S d i j), (5, I a)]) (fun a v => []) () ?_ ?_ ?_
   ·exact sq
   ·exact sh []
   intro a v
   refine cm_seq <| sr <| la 2 ((12, S _ _ _) :: (11, I _) :: _) rfl <| vn 13 e rfl <| la 1 ((14, B _) :: _) rfl <| nn <| cc rfl (fun z => ?_) (fun z => ?_)
   ·refine sk <| cm_seq <| cm_block <| cm_seq <| cm_ck (fun x => ?_)
    refine cm_ck (fun y => ?_)
    refine cm_drawn [(25, B (decide ((ix p0 a) ≠ (ix p1 a))))] (by kernel_rfl) (by kernel_rfl) ?_ ?_
    ·exact qa 2 ((18, I _) :: (17, S _ _ _) :: _) rfl <| qi 19 3 l e x rfl rfl <| qr 20 l x rfl <| qa 2 ((22, I _) :: (21, S _ _ _) :: _) rfl <| qi 23 3 m o y rfl rfl <| qr 24 m y rfl <| q_ 25 (fun _ _ => op_neApiFinding (ix p0 a) (ix p1 a) rfl rfl) <| lq 9
    refine xm_next <| cc rfl (fun C => ?_) (fun C => ?_)
    ·exact sr <| la 1 ((4, B false) :: _) rfl <| nn <| cm_ret <| xm_inR <| xm_thenR <| xm_lret <| xm_inR <| xm_lret <| xr [] ()
    ·refine cm_skip <| xm_inN <| xm_next <| cm_region <| la 1 ((15, I _) :: _) rfl <| lm_ck (fun G => ?_)
     exact va 16 G rfl rfl <| la 1 ((5, I _) :: _) rfl <| lm_nil <| xn () []
   ·exact cm_exit <| xm_thenE <| xm_lexit <| xm_here <| xm_lnext () sub_nil (sh [])
  intro q t
  exact sr <| la 1 ((4, B true) :: _) rfl <| nn <| cm_ret <| xr [] ()
/-- recyclinglaw59.light -/
def m_recyclinglaw59_light (N : Nat) (p0 : ApiBooks) : Option (Bool) :=
 (if (((decide (60 < (List.length p0.Account.Emptyings : Int))) || (decide (60 < (List.length p0.Account.Assigns : Int)))) || (decide (20 < (List.length p0.Bills : Int)))) = true then
  some (false)
 else
  (andThen
   (loopM (fun (a : Int) =>
    (if a < (List.length p0.Bills : Int) then
     ck (0 ≤ a ∧ a < (List.length p0.Bills : Int)) (
      ck (0 ≤ a ∧ a < (List.length p0.Bills : Int)) (
       (if ((decide (60 < (List.length ((ix p0.Bills a).Items) : Int))) || (((decide (0 ≤ (ix p0.Bills a).When.From)) && (decide ((ix p0.Bills a).When.To ≤ 36525))) && (decide (400 < (wr64 (((ix p0.Bills a).When.To) - ((ix p0.Bills a).When.From))))))) = true then
        some (.done (.done (false)))
       else
        ck (I64 (a + 1)) (
         some (.next (a + 1))))))
    else
     some (.done (.next ())))) N 0)
  fun (_s42 : Unit) =>
   some (true)))
set_option maxHeartbeats 2000000 in
set_option maxRecDepth 20000 in
theorem m_recyclinglaw59_light_ok (N : Nat) (w0 : World) (p0 : ApiBooks) (a8 : Ad) (a9 aa : Nat) (ab : Ad) (ac ad : Nat) (t : Ad) (y z : Nat) (C : Ad) (G J : Nat) (ae : Ad) (af ag : Nat) (ah : Ad) (ai aj : Nat) (ak : Ad) (am an : Nat) (_b6 : Int → Hdr) (ao : Ad) (aq ar : Nat) (au : Ad) (av aw : Nat) (K : Ad) (L M : Nat) (O : Ad) (Q U : Nat) (V : Ad) (X Y : Nat) (Z : Ad) (a0 a1 : Nat) (f : Ad) (g l : Nat) (a : Int → Hdr) (a2 : Ad) (a3 a4 : Nat) (_b4 : Int → Hdr) (ay : SW t y z (List.length p0.Account.Assigns)) (az : SW C G J (List.length p0.Account.Emptyings)) (d : RdI w0 6 (fun (i : Int) (x : ApiBill) => encApiBill x (a i)) f p0.Bills) (e : SW f g l (List.length p0.Bills)) (a7 : ∀ i : Int, 0 ≤ i ∧ i < (List.length p0.Bills : Int) → RdE w0 5 encApiItem (a i).1 (ix p0.Bills i).Items ∧ SW (a i).1 (a i).2.1 (a i).2.2 (List.length (ix p0.Bills i).Items)) (r : Bool) (hr : m_recyclinglaw59_light N p0 = some r) :
  Ret Tryz.prog 6 [.agg #[I p0.Now, S a8 a9 aa, S ab ac ad, S t y z, S C G J, S ae af ag, I p0.Account.Gap, S ah ai aj, I p0.Inside, I p0.Bins, S ak am an, S ao aq ar, S au av aw, S K L M, S O Q U, S V X Y, S Z a0 a1, S f g l, S a2 a3 a4]] w0 VB H0 r := by
 refine calls_v (n := 62) r hr Tryz.func6 ?_
 unfold m_recyclinglaw59_light
 refine sr <| bx 1 [I _, S _ _ _, S _ _ _, S _ _ _, S _ _ _, S _ _ _, I _, S _ _ _, I _, I _, S _ _ _, S _ _ _, S _ _ _, S _ _ _, S _ _ _, S _ _ _, S _ _ _, S _ _ _, S _ _ _] rfl fun b5 => la 1 ((2, B false) :: _) rfl <| nn <| cm_seq <| cm_seq <| cm_cutE [(22, B (((decide (60 < (List.length p0.Account.Emptyings : Int))) || (decide (60 < (List.length p0.Account.Assigns : Int)))) || (decide (20 < (List.length p0.Bills : Int)))))] ?_ ?_
 ·refine qf 5 1 1 rfl <| qf 6 3 4 rfl <| qc 7 0 rfl rfl rfl <| qn 8 az rfl <| qd 9 (fun _ _ => op_gtr rfl rfl) (fun h6 => ?_) (fun h6 => ?_)
  ·exact qa 13 ((22, B true) :: uz 21 4 ((17, B true) :: (16, B true) :: uz 15 5 ((10, B true) :: _))) rfl <| lb 18 rfl (by rw [dt h6] <;> rfl)
  ·refine qa 1 ((10, B false) :: _) rfl <| qf 11 1 1 rfl <| qf 12 2 3 rfl <| qc 13 0 rfl rfl rfl <| qn 14 ay rfl <| qd 15 (fun _ _ => op_gtr rfl rfl) (fun h7 => ?_) (fun h7 => ?_)
   ·exact qa 7 ((22, B true) :: uz 21 4 ((17, B true) :: (16, B true) :: _)) rfl <| lb 18 rfl (by rw [df h6, dt h7] <;> rfl)
   ·exact qa 2 ((17, B false) :: (16, B false) :: _) rfl <| qf 18 17 17 rfl <| qc 19 0 rfl rfl rfl <| qn 20 e rfl <| qa 2 ((22, B _) :: (21, B _) :: _) rfl <| lb 18 rfl (by rw [df h6, df h7] <;> rfl)
 refine xm_next <| cB rfl (fun h8 => ?_) (fun h8 => ?_)
 ·exact sr <| la 1 ((2, B false) :: _) rfl <| nn <| cm_ret <| xm_thenR <| xr [] ()
 ·refine sk <| cm_join (σ := Unit) (ξ := Unit) (fun b1 b2 => []) (fun b1 b2 => []) ?_ ?_
  ·refine sr <| vf 23 17 17 rfl <| vc 24 0 rfl rfl rfl <| vn 25 e rfl <| la 1 ((26, I _) :: _) rfl <| nn <| cm_block <| cm_loop (σ := Int) (ξ := Unit) (fun b b3 => [(1, .pointer (some ⟨b5, 0, none⟩)), (25, I (List.length p0.Bills : Int)), (26, I b)]) (fun b b3 => [blkE b5 40 [I p0.Now, S a8 a9 aa, S ab ac ad, S t y z, S C G J, S ae af ag, I p0.Account.Gap, S ah ai aj, I p0.Inside, I p0.Bins, S ak am an, S ao aq ar, S au av aw, S K L M, S O Q U, S V X Y, S Z a0 a1, S f g l, S a2 a3 a4]]) () ?_ ?_ ?_
   ·exact sq
   ·exact sh [0]
   intro b b3
   refine sr <| la 1 ((27, B _) :: _) rfl <| nn <| cm_seq <| cc rfl (fun b7 => ?_) (fun b7 => ?_)
   ·refine sk <| cm_seq <| cm_block <| sr <| la 2 ((3, I _) :: (28, I _) :: _) rfl <| nn <| sr <| vf 29 17 17 rfl <| vc 30 0 rfl rfl rfl <| la 1 ((31, I _) :: _) rfl <| lm_ck (fun a5 => ?_)
    refine v_ 32 (fun _ c1 => oI 6 rfl rfl ((d.old c1).addr a5.1 a5.2) e.2.2 a5) <| v_ 33 (fun _ _ => op_field (m := 2) rfl (by kernel_rfl)) <| v_ 34 (fun _ c1 => oR [I ((ix p0.Bills b).When.From), I ((ix p0.Bills b).When.To)] ((d.old c1).part (o := 2) a5.1 a5.2 rfl)) <| al 4 [I 0, I 0] (v := .agg #[I 0, I 0]) rfl fun ba => sA 0 [I _, I _] [_, _] (H' := [blkE _ _ [_, _], _]) rfl rfl rfl rfl rfl rfl <| nn <| cm_seq <| cm_ck (fun q => ?_)
    refine cm_cutE [(60, B ((decide (60 < (List.length ((ix p0.Bills b).Items) : Int))) || (((decide (0 ≤ (ix p0.Bills b).When.From)) && (decide ((ix p0.Bills b).When.To ≤ 36525))) && (decide (400 < (wr64 (((ix p0.Bills b).When.To) - ((ix p0.Bills b).When.From))))))))] ?_ ?_
    ·refine qf 35 17 17 rfl <| qc 36 1 rfl rfl rfl <| qa 1 ((37, I _) :: _) rfl <| q_ 38 (fun _ c1 => oI 6 rfl rfl ((d.old c1).addr q.1 q.2) e.2.2 q) <| q_ 39 (fun _ _ => op_field (m := 4) rfl (by kernel_rfl)) <| q_ 40 (fun _ c1 => oL (v := S ((a b).1) ((a b).2.1) ((a b).2.2)) ((d.old c1).cell (j := 4) q.1 q.2 rfl)) <| q_ 41 (fun _ _ => op_lenN rfl (by kernel_rfl) (a7 b q).2.2.2) <| qd 42 (fun _ _ => op_gtr rfl rfl) (fun a6 => ?_) (fun a6 => ?_)
     ·exact qa 18 ((60, B true) :: uz 59 16 ((43, B true) :: _)) rfl <| lb 26 rfl (by rw [dt a6] <;> rfl)
     ·refine qa 1 ((43, B false) :: _) rfl <| qf 44 0 0 rfl <| qc 45 0 rfl rfl rfl <| qd 46 (fun _ _ => op_geq rfl rfl) (fun ax => ?_) (fun ax => ?_)
      ·refine qa 1 ((47, B true) :: _) rfl <| qf 48 1 1 rfl <| qc 49 0 rfl rfl rfl <| qd 50 (fun _ _ => op_leq rfl rfl) (fun b0 => ?_) (fun b0 => ?_)
       ·exact qa 2 ((52, B true) :: (51, B true) :: _) rfl <| qf 53 1 1 rfl <| qc 54 0 rfl rfl rfl <| qf 55 0 0 rfl <| qc 56 0 rfl rfl rfl <| q_ 57 (fun _ _ => op_subW rfl rfl) <| qa 3 ((60, B _) :: (59, B _) :: (58, B _) :: _) rfl <| lb 26 rfl (by rw [df a6, dt ax, dt b0] <;> rfl)
       ·exact qa 10 ((60, B false) :: (59, B false) :: uz 58 6 ((52, B false) :: (51, B false) :: _)) rfl <| lb 26 rfl (by rw [df a6, dt ax, df b0] <;> rfl)
      ·exact qa 14 ((60, B false) :: (59, B false) :: uz 58 6 ((52, B false) :: (51, B false) :: uz 50 3 ((47, B false) :: _))) rfl <| lb 26 rfl (by rw [df a6, df ax] <;> rfl)
    refine xm_next <| cB rfl (fun b8 => ?_) (fun b8 => ?_)
    ·exact sr <| la 1 ((2, B false) :: _) rfl <| nn <| cm_ret <| xm_inR <| xm_thenR <| xm_lret <| xm_inR <| xm_lret <| xr [] ()
    ·refine cm_skip <| xm_inN <| xm_next <| cm_region <| lm_ck (fun b9 => ?_)
     exact va 61 b9 rfl rfl <| la 1 ((26, I _) :: _) rfl <| lm_nil <| xn () [1]
   ·exact cm_exit <| xm_thenE <| xm_lexit <| xm_here <| xm_lnext () sub_nil (sh [])
  intro b1 b2
  exact sr <| la 1 ((2, B true) :: _) rfl <| nn <| cm_ret <| xr [] ()
end Go.Proofs.YtbnimhmoffchdaaGreatDoor
