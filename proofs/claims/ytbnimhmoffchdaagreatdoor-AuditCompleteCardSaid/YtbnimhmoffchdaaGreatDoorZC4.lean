/- Models of functions, and that the code follows them. Written by deco.py. -/
import Derived.Test.YtbnimhmoffchdaaGreatDoorZC3
namespace Go.Proofs.YtbnimhmoffchdaaGreatDoor
open Go.RowKit
set_option linter.unusedSectionVars false
variable [JF]

/-- recyclingref59.sold -/
def m_recyclingref59_sold (N : Nat) (p0 : (List ApiSale)) (p1 : Int) : Option (Int) :=
 (andThen
  (loopM (fun (a : Int) =>
   (if a < (List.length p0 : Int) then
    ck (0 ≤ a ∧ a < (List.length p0 : Int)) (
     ck (decide (0 ≤ (ix p0 a).First) = true → 0 ≤ a ∧ a < (List.length p0 : Int)) (
      ck (((decide (0 ≤ (ix p0 a).First)) && (decide ((ix p0 a).First ≤ p1))) = true → 0 ≤ a ∧ a < (List.length p0 : Int)) (
       ck (((decide (0 ≤ (ix p0 a).First)) && (decide ((ix p0 a).First ≤ p1))) = true → I64 (p1 - ((ix p0 a).First))) (
        ck (((decide (0 ≤ (ix p0 a).First)) && (decide ((ix p0 a).First ≤ p1))) = true → 0 ≤ a ∧ a < (List.length p0 : Int)) (
         (if (((decide (0 ≤ (ix p0 a).First)) && (decide ((ix p0 a).First ≤ p1))) && (decide ((p1 - ((ix p0 a).First)) < (ix p0 a).Count))) = true then
          some (.done (.done (a)))
         else
          ck (I64 (a + 1)) (
           some (.next (a + 1)))))))))
   else
    some (.done (.next ())))) N 0)
 fun (_s41 : Unit) =>
  some ((-1 : Int)))
set_option maxHeartbeats 2000000 in
set_option maxRecDepth 20000 in
theorem m_recyclingref59_sold_ok (N : Nat) (w0 : World) (p0 : (List ApiSale)) (p1 : Int) (g : Ad) (q t : Nat) (b : RdE w0 5 encApiSale g p0) (f : SW g q t (List.length p0)) (r : Int) (hr : m_recyclingref59_sold N p0 p1 = some r) :
  Ret Tryz.prog 130 [S g q t, I p1] w0 VI H0 r := by
 refine calls_v (n := 43) r hr Tryz.func130 ?_
 unfold m_recyclingref59_sold
 refine sr <| la 1 ((4, I _) :: _) rfl <| nn <| cm_join (σ := Unit) (ξ := Unit) (fun y z => []) (fun y z => []) ?_ ?_
 ·refine sr <| la 1 ((5, I _) :: _) rfl <| nn <| cm_block <| cm_loop (σ := Int) (ξ := Unit) (fun e C => [(0, S g q t), (1, I p1), (5, I e)]) (fun e C => []) () ?_ ?_ ?_
  ·exact sq
  ·exact sh []
  intro e C
  refine cm_seq <| sr <| la 2 ((7, S _ _ _) :: (6, I _) :: _) rfl <| vn 8 f rfl <| la 1 ((9, B _) :: _) rfl <| nn <| cc rfl (fun G => ?_) (fun G => ?_)
  ·refine sk <| cm_seq <| cm_block <| cm_seq <| cm_ck (fun x => ?_)
   refine cm_ck (fun i => ?_)
   refine cm_ck (fun l => ?_)
   refine cm_ck (fun J => ?_)
   refine cm_ck (fun o => ?_)
   refine cm_drawn [(41, B (((decide (0 ≤ (ix p0 e).First)) && (decide ((ix p0 e).First ≤ p1))) && (decide ((p1 - ((ix p0 e).First)) < (ix p0 e).Count))))] (by kernel_rfl) (by kernel_rfl) ?_ ?_
   ·refine qa 2 ((13, I _) :: (12, S _ _ _) :: _) rfl <| qi 14 5 b f x rfl rfl <| q_ 15 (fun _ _ => op_field (m := 1) rfl (by kernel_rfl)) <| q_ 16 (fun _ c1 => oL (v := I ((ix p0 e).First)) ((b.old c1).cell (j := 1) x.1 x.2 rfl)) <| qd 17 (fun _ _ => op_geq rfl rfl) (fun a => ?_) (fun a => ?_)
    ·refine qa 4 ((21, I _) :: (20, S _ _ _) :: (19, I _) :: (18, B true) :: _) rfl <| q_ 22 (fun _ c1 => oI 5 rfl rfl ((b.old c1).addr (i (by rw [dt a] <;> rfl)).1 (i (by rw [dt a] <;> rfl)).2) f.2.2 (i (by rw [dt a] <;> rfl))) <| q_ 23 (fun _ _ => op_field (m := 1) rfl (by kernel_rfl)) <| q_ 24 (fun _ c1 => oL (v := I ((ix p0 e).First)) ((b.old c1).cell (j := 1) (i (by rw [dt a] <;> rfl)).1 (i (by rw [dt a] <;> rfl)).2 rfl)) <| qd 25 (fun _ _ => op_geq rfl rfl) (fun d => ?_) (fun d => ?_)
     ·exact qa 5 ((30, I _) :: (29, S _ _ _) :: (28, I _) :: (27, B true) :: (26, B true) :: _) rfl <| q_ 31 (fun _ c1 => oI 5 rfl rfl ((b.old c1).addr (l (by rw [dt a, dt d] <;> rfl)).1 (l (by rw [dt a, dt d] <;> rfl)).2) f.2.2 (l (by rw [dt a, dt d] <;> rfl))) <| q_ 32 (fun _ _ => op_field (m := 1) rfl (by kernel_rfl)) <| q_ 33 (fun _ c1 => oL (v := I ((ix p0 e).First)) ((b.old c1).cell (j := 1) (l (by rw [dt a, dt d] <;> rfl)).1 (l (by rw [dt a, dt d] <;> rfl)).2 rfl)) <| q_ 34 (fun _ _ => op_sub rfl rfl (J (by rw [dt a, dt d] <;> rfl))) <| qa 2 ((36, I _) :: (35, S _ _ _) :: _) rfl <| q_ 37 (fun _ c1 => oI 5 rfl rfl ((b.old c1).addr (o (by rw [dt a, dt d] <;> rfl)).1 (o (by rw [dt a, dt d] <;> rfl)).2) f.2.2 (o (by rw [dt a, dt d] <;> rfl))) <| q_ 38 (fun _ _ => op_field (m := 2) rfl (by kernel_rfl)) <| q_ 39 (fun _ c1 => oL (v := I ((ix p0 e).Count)) ((b.old c1).cell (j := 2) (o (by rw [dt a, dt d] <;> rfl)).1 (o (by rw [dt a, dt d] <;> rfl)).2 rfl)) <| qa 2 ((41, B _) :: (40, B _) :: _) rfl <| lb 30 rfl (by rw [dt a, dt d] <;> rfl)
     ·exact qa 16 ((41, B false) :: uz 40 13 ((27, B false) :: (26, B false) :: _)) rfl <| lb 30 rfl (by rw [dt a, df d] <;> rfl)
    ·exact qa 24 ((41, B false) :: uz 40 13 ((27, B false) :: (26, B false) :: uz 25 7 ((18, B false) :: _))) rfl <| lb 30 rfl (by rw [df a] <;> rfl)
   refine xm_next <| cB rfl (fun K => ?_) (fun K => ?_)
   ·exact sr <| la 2 ((4, I _) :: (42, I _) :: _) rfl <| nn <| cm_ret <| xm_inR <| xm_thenR <| xm_lret <| xm_inR <| xm_lret <| xr [] ()
   ·refine cm_skip <| xm_inN <| xm_next <| cm_region <| la 1 ((10, I _) :: _) rfl <| lm_ck (fun L => ?_)
    exact va 11 L rfl rfl <| la 1 ((5, I _) :: _) rfl <| lm_nil <| xn () []
  ·exact cm_exit <| xm_thenE <| xm_lexit <| xm_here <| xm_lnext () sub_nil (sh [])
 intro y z
 exact sr <| la 1 ((4, I _) :: _) rfl <| nn <| cm_ret <| xr [] ()
/-- recyclingref59.payout -/
def m_recyclingref59_payout (N : Nat) (p0 : ApiBooks) (p1 : Int) : Option ((List ApiFinding)) :=
 ck (0 ≤ p1 ∧ p1 < (List.length p0.Paid : Int)) (
  Option.bind (m_recyclingref59_sold N p0.Sales ((ix p0.Paid p1).Claim.Serial)) fun d => (andThen
   (ck ((!(decide (d < 0))) = true → 0 ≤ d ∧ d < (List.length p0.Sales : Int)) (
    (if ((((decide (d < 0)) || (decide ((ix p0.Sales d).Product ≠ (ix p0.Paid p1).Product))) || (decide ((ix p0.Paid p1).Product < 0))) || (decide ((List.length p0.Products : Int) ≤ (ix p0.Paid p1).Product))) = true then
     ck ((List.length ([] : List ApiFinding) + List.length ([(ApiFinding.mk 5 p1 0)])) * 24 ≤ 140737488355328) (
      some (.next (([] : List ApiFinding) ++ ([(ApiFinding.mk 5 p1 0)]))))
    else
     ck (0 ≤ (ix p0.Paid p1).Product ∧ (ix p0.Paid p1).Product < (List.length p0.Products : Int)) (
      (if (ix p0.Products ((ix p0.Paid p1).Product)).Deposit ≠ (ix p0.Paid p1).Amount then
       ck ((List.length ([] : List ApiFinding) + List.length ([(ApiFinding.mk 6 p1 0)])) * 24 ≤ 140737488355328) (
        some (.next (([] : List ApiFinding) ++ ([(ApiFinding.mk 6 p1 0)]))))
      else
       some (.next ([] : List ApiFinding)))))))
  fun (f : (List ApiFinding)) =>
   (andThen
    (loopM (fun (a : Int) =>
     (if a < p1 then
      ck (0 ≤ a ∧ a < (List.length p0.Paid : Int)) (
       (if (ix p0.Paid a).Claim.Serial = (ix p0.Paid p1).Claim.Serial then
        ck ((List.length f + List.length ([(ApiFinding.mk 7 p1 a)])) * 24 ≤ 140737488355328) (
         some (.done (.next (f ++ ([(ApiFinding.mk 7 p1 a)])))))
       else
        ck (I64 (a + 1)) (
         some (.next (a + 1)))))
     else
      some (.done (.next f)))) N 0)
   fun (e : (List ApiFinding)) =>
    (andThen
     (loopM (fun (b : Int) =>
      (if b < (List.length p0.Claims : Int) then
       ck (0 ≤ b ∧ b < (List.length p0.Claims : Int)) (
        (if (ix p0.Claims b) = (ix p0.Paid p1).Claim then
         some (.done (.done (e)))
        else
         ck (I64 (b + 1)) (
          some (.next (b + 1)))))
      else
       some (.done (.next ())))) N 0)
    fun (_s166 : Unit) =>
     ck ((List.length e + List.length ([(ApiFinding.mk 8 p1 0)])) * 24 ≤ 140737488355328) (
      some ((e ++ ([(ApiFinding.mk 8 p1 0)]))))))))
set_option maxHeartbeats 2000000 in
set_option maxRecDepth 20000 in
theorem m_recyclingref59_payout_ok (N : Nat) (w0 : World) (p0 : ApiBooks) (p1 : Int) (a3 : Ad) (a4 a5 : Nat) (a6 : Ad) (a7 a8 : Nat) (a9 : Ad) (aa ab : Nat) (ac : Ad) (ad ae : Nat) (af : Ad) (ag ah : Nat) (ai : Ad) (aj ak : Nat) (am : Ad) (an ao : Nat) (_bw : Int → Hdr) (q : Ad) (Y Z : Nat) (f : Ad) (t x : Nat) (d : Ad) (g i : Nat) (e : Ad) (l o : Nat) (y : Ad) (C G : Nat) (J : Ad) (K L : Nat) (M : Ad) (O Q : Nat) (_bu : Int → Hdr) (U : Ad) (V X : Nat) (_bv : Int → Hdr) (az : RdE w0 5 encApiProduct q p0.Products) (b0 : SW q Y Z (List.length p0.Products)) (ar : RdE w0 5 encApiSale f p0.Sales) (b1 : SW f t x (List.length p0.Sales)) (aw : RdE w0 5 encApiClaim d p0.Claims) (ax : SW d g i (List.length p0.Claims)) (a0 : RdE w0 7 encApiPayout e p0.Paid) (ay : SW e l o (List.length p0.Paid)) (r : (List ApiFinding)) (hr : m_recyclingref59_payout N p0 p1 = some r) :
  Ret Tryz.prog 86 [.agg #[I p0.Now, S a3 a4 a5, S a6 a7 a8, S a9 aa ab, S ac ad ae, S af ag ah, I p0.Account.Gap, S ai aj ak, I p0.Inside, I p0.Bins, S am an ao, S q Y Z, S f t x, S d g i, S e l o, S y C G, S J K L, S M O Q, S U V X], I p1] w0 (fun (_r : (List ApiFinding)) (u : Hdr) => S u.1 u.2.1 u.2.2) (fun (r : (List ApiFinding)) (u : Hdr) => [ownE 64 3 encApiFinding u.1 u.2.1 u.2.2 r]) r := by
 refine calls_v (n := 111) r hr Tryz.func86 ?_
 unfold m_recyclingref59_payout
 refine sr <| bx 2 [I _, S _ _ _, S _ _ _, S _ _ _, S _ _ _, S _ _ _, I _, S _ _ _, I _, I _, S _ _ _, S _ _ _, S _ _ _, S _ _ _, S _ _ _, S _ _ _, S _ _ _, S _ _ _, S _ _ _] rfl fun b5 => la 1 ((4, S _ _ _) :: _) rfl <| nn <| sr <| lm_slice0 10 (el := 64) (sz := 3) (bytes := 24) (enc := encApiFinding) (by kernel_rfl) (by kernel_rfl) fun A6 n7 k8 h9 => la 1 ((5, S _ _ _) :: _) rfl <| nn <| sr <| vf 11 14 14 rfl <| vc 12 1 rfl rfl rfl <| la 1 ((13, I _) :: _) rfl <| lm_ck (fun bf => ?_)
 refine vi 14 7 a0 ay bf rfl rfl <| vr 15 a0 bf rfl <| al 6 [I 0, I 0, I 0, I 0, B false, I 0, I 0] (v := .agg #[I 0, I 0, I 0, I 0, B false, I 0, I 0]) rfl fun aq => sA 0 [I _, I _, I _, I _, B _, I _, I _] [_, _, _, _, _, _, _] (H' := [blkE _ _ [_, _, _, _, _, _, _], _, _]) rfl rfl rfl rfl rfl rfl <| nn <| sr <| vf 16 12 12 rfl <| vc 17 2 rfl rfl rfl <| vf 18 0 0 rfl <| vf 19 0 0 rfl <| vc 20 0 rfl rfl rfl <| lc 21 (fun r1 hr1 w1 c1 => m_recyclingref59_sold_ok N w1 p0.Sales ((ix p0.Paid p1).Claim.Serial) f t x (ar.old c1) b1 r1 hr1) fun b7 cj => la 1 ((7, I _) :: _) rfl <| nn <| cm_join (σ := (List ApiFinding)) (ξ := Hdr) (fun b4 b => [(1, I p1), (2, .pointer (some ⟨b5, 0, none⟩)), (5, S b.1 b.2.1 b.2.2), (6, .pointer (some ⟨aq, 0, none⟩))]) (fun b4 b => [blkE b5 40 [I p0.Now, S a3 a4 a5, S a6 a7 a8, S a9 aa ab, S ac ad ae, S af ag ah, I p0.Account.Gap, S ai aj ak, I p0.Inside, I p0.Bins, S am an ao, S q Y Z, S f t x, S d g i, S e l o, S y C G, S J K L, S M O Q, S U V X], ownE 64 3 encApiFinding b.1 b.2.1 b.2.2 b4, blkE aq 152 [I ((ix p0.Paid p1).Claim.Serial), I ((ix p0.Paid p1).Claim.Machine), I ((ix p0.Paid p1).Claim.Seq), I ((ix p0.Paid p1).Claim.At), B ((ix p0.Paid p1).Claim.Paid), I ((ix p0.Paid p1).Product), I ((ix p0.Paid p1).Amount)]]) ?_ ?_
 ·refine cm_seq <| cm_ck (fun b2 => ?_)
  refine cm_drawn [(47, B ((((decide (b7 < 0)) || (decide ((ix p0.Sales b7).Product ≠ (ix p0.Paid p1).Product))) || (decide ((ix p0.Paid p1).Product < 0))) || (decide ((List.length p0.Products : Int) ≤ (ix p0.Paid p1).Product))))] (by kernel_rfl) (by kernel_rfl) ?_ ?_
  ·refine qa 1 ((22, I _) :: _) rfl <| qd 23 (fun _ _ => op_lss rfl rfl) (fun a1 => ?_) (fun a1 => ?_)
   ·exact qa 24 ((47, B true) :: uz 46 6 ((40, B true) :: (39, B true) :: uz 38 3 ((35, B true) :: (34, B true) :: uz 33 9 ((24, B true) :: _)))) rfl <| lb 26 rfl (by rw [dt a1] <;> rfl)
   ·refine qa 1 ((24, B false) :: _) rfl <| qf 25 12 12 rfl <| qc 26 2 rfl rfl rfl <| qa 1 ((27, I _) :: _) rfl <| q_ 28 (fun _ c1 => oI 5 rfl rfl ((ar.old c1).addr (b2 (by rw [df a1] <;> rfl)).1 (b2 (by rw [df a1] <;> rfl)).2) b1.2.2 (b2 (by rw [df a1] <;> rfl))) <| qF 29 rfl <| q_ 30 (fun _ c1 => oL (v := I ((ix p0.Sales b7).Product)) ((ar.old c1).cell0 (b2 (by rw [df a1] <;> rfl)).1 (b2 (by rw [df a1] <;> rfl)).2 rfl)) <| qf 31 5 5 rfl <| qc 32 0 rfl rfl rfl <| qd 33 (fun _ _ => op_neq rfl rfl) (fun b6 => ?_) (fun b6 => ?_)
    ·exact qa 14 ((47, B true) :: uz 46 6 ((40, B true) :: (39, B true) :: uz 38 3 ((35, B true) :: (34, B true) :: _))) rfl <| lb 26 rfl (by rw [df a1, dt b6] <;> rfl)
    ·refine qa 2 ((35, B false) :: (34, B false) :: _) rfl <| qf 36 5 5 rfl <| qc 37 0 rfl rfl rfl <| qd 38 (fun _ _ => op_lss rfl rfl) (fun b8 => ?_) (fun b8 => ?_)
     ·exact qa 9 ((47, B true) :: uz 46 6 ((40, B true) :: (39, B true) :: _)) rfl <| lb 26 rfl (by rw [df a1, df b6, dt b8] <;> rfl)
     ·exact qa 2 ((40, B false) :: (39, B false) :: _) rfl <| qf 41 5 5 rfl <| qc 42 0 rfl rfl rfl <| qf 43 11 11 rfl <| qc 44 2 rfl rfl rfl <| qn 45 b0 rfl <| qa 2 ((47, B _) :: (46, B _) :: _) rfl <| lb 26 rfl (by rw [df a1, df b6, df b8] <;> rfl)
  refine xm_next <| cB rfl (fun bz => ?_) (fun bz => ?_)
  ·refine cm_region <| la 2 ((49, I _) :: (48, S _ _ _) :: _) rfl <| v_ 50 (fun _ _ => op_build (z := [I 0, I 0, I 0]) (tab := [(0, 1), (1, 1), (2, 1)]) (cs := [I _, I _, I _]) [(0, [I _]), (1, [I _])] (by kernel_rfl) (by kernel_rfl) (fillOk_cons rfl rfl rfl (fillOk_cons rfl rfl rfl fillOk_nil)) rfl) <| lm_slice1 51 (el := 64) (sz := 3) (bytes := 24) (enc := encApiFinding) (ApiFinding.mk 5 p1 0) (by kernel_rfl) (by kernel_rfl) encApiFinding_len rfl (by kernel_rfl) fun ck cl cm cn => lm_ck (fun c0 => ?_)
   exact ap 52 2 (el := 64) (sz := 3) (bytes := 24) (enc := encApiFinding) (l2 := ([(ApiFinding.mk 5 p1 0)])) encApiFinding_len encApiFinding_one rfl rfl rfl (fun w1 c1 => (c1.ownZ 0 rfl)) (fun w1 c1 => (c1.own 0 rfl encApiFinding_len)) c0 fun c2 c3 c4 => la 1 ((5, S _ _ _) :: _) rfl <| lm_nil <| xn (c2, c3, c4) [3, 2, 1]
  ·refine cm_seq <| cm_ck (fun b9 => ?_)
   refine cm_drawn [(62, B (decide ((ix p0.Products ((ix p0.Paid p1).Product)).Deposit ≠ (ix p0.Paid p1).Amount)))] (by kernel_rfl) (by kernel_rfl) ?_ ?_
   ·exact qf 53 11 11 rfl <| qc 54 2 rfl rfl rfl <| qf 55 5 5 rfl <| qc 56 0 rfl rfl rfl <| qi 57 5 az b0 b9 rfl rfl <| q_ 58 (fun _ _ => op_field (m := 2) rfl (by kernel_rfl)) <| q_ 59 (fun _ c1 => oL (v := I ((ix p0.Products ((ix p0.Paid p1).Product)).Deposit)) ((az.old c1).cell (j := 2) b9.1 b9.2 rfl)) <| qf 60 6 6 rfl <| qc 61 0 rfl rfl rfl <| qa 1 ((62, B _) :: _) rfl <| lq 10
   refine xm_next <| cc rfl (fun c5 => ?_) (fun c5 => ?_)
   ·refine cm_region <| la 2 ((64, I _) :: (63, S _ _ _) :: _) rfl <| v_ 65 (fun _ _ => op_build (z := [I 0, I 0, I 0]) (tab := [(0, 1), (1, 1), (2, 1)]) (cs := [I _, I _, I _]) [(0, [I _]), (1, [I _])] (by kernel_rfl) (by kernel_rfl) (fillOk_cons rfl rfl rfl (fillOk_cons rfl rfl rfl fillOk_nil)) rfl) <| lm_slice1 66 (el := 64) (sz := 3) (bytes := 24) (enc := encApiFinding) (ApiFinding.mk 6 p1 0) (by kernel_rfl) (by kernel_rfl) encApiFinding_len rfl (by kernel_rfl) fun co cp cq cr => lm_ck (fun c6 => ?_)
    exact ap 67 2 (el := 64) (sz := 3) (bytes := 24) (enc := encApiFinding) (l2 := ([(ApiFinding.mk 6 p1 0)])) encApiFinding_len encApiFinding_one rfl rfl rfl (fun w1 c1 => (c1.ownZ 0 rfl)) (fun w1 c1 => (c1.own 0 rfl encApiFinding_len)) c6 fun c7 c8 c9 => la 1 ((5, S _ _ _) :: _) rfl <| lm_nil <| xn (c7, c8, c9) [3, 2, 1]
   ·exact cm_skip <| xn (A6, n7, k8) [2, 1, 0]
 intro b4 b
 refine cm_join (σ := (List ApiFinding)) (ξ := Hdr) (fun au a => [(1, I p1), (2, .pointer (some ⟨b5, 0, none⟩)), (5, S a.1 a.2.1 a.2.2), (6, .pointer (some ⟨aq, 0, none⟩))]) (fun au a => [blkE b5 40 [I p0.Now, S a3 a4 a5, S a6 a7 a8, S a9 aa ab, S ac ad ae, S af ag ah, I p0.Account.Gap, S ai aj ak, I p0.Inside, I p0.Bins, S am an ao, S q Y Z, S f t x, S d g i, S e l o, S y C G, S J K L, S M O Q, S U V X], ownE 64 3 encApiFinding a.1 a.2.1 a.2.2 au, blkE aq 152 [I ((ix p0.Paid p1).Claim.Serial), I ((ix p0.Paid p1).Claim.Machine), I ((ix p0.Paid p1).Claim.Seq), I ((ix p0.Paid p1).Claim.At), B ((ix p0.Paid p1).Claim.Paid), I ((ix p0.Paid p1).Product), I ((ix p0.Paid p1).Amount)]]) ?_ ?_
 ·refine sr <| la 1 ((8, I _) :: _) rfl <| nn <| cm_block <| cm_loop (σ := Int) (ξ := Unit) (fun a2 ba => [(1, I p1), (2, .pointer (some ⟨b5, 0, none⟩)), (5, S b.1 b.2.1 b.2.2), (6, .pointer (some ⟨aq, 0, none⟩)), (8, I a2)]) (fun a2 ba => [blkE b5 40 [I p0.Now, S a3 a4 a5, S a6 a7 a8, S a9 aa ab, S ac ad ae, S af ag ah, I p0.Account.Gap, S ai aj ak, I p0.Inside, I p0.Bins, S am an ao, S q Y Z, S f t x, S d g i, S e l o, S y C G, S J K L, S M O Q, S U V X], ownE 64 3 encApiFinding b.1 b.2.1 b.2.2 b4, blkE aq 152 [I ((ix p0.Paid p1).Claim.Serial), I ((ix p0.Paid p1).Claim.Machine), I ((ix p0.Paid p1).Claim.Seq), I ((ix p0.Paid p1).Claim.At), B ((ix p0.Paid p1).Claim.Paid), I ((ix p0.Paid p1).Product), I ((ix p0.Paid p1).Amount)]]) () ?_ ?_ ?_
  ·exact sq
  ·exact sh [0, 1, 2]
  intro a2 ba
  refine cm_seq <| sr <| la 3 ((70, B _) :: (69, I _) :: (68, I _) :: _) rfl <| nn <| cc rfl (fun bg => ?_) (fun bg => ?_)
  ·refine sk <| cm_seq <| cm_block <| cm_seq <| cm_ck (fun b3 => ?_)
   refine cm_drawn [(83, B (decide ((ix p0.Paid a2).Claim.Serial = (ix p0.Paid p1).Claim.Serial)))] (by kernel_rfl) (by kernel_rfl) ?_ ?_
   ·exact qf 73 14 14 rfl <| qc 74 0 rfl rfl rfl <| qa 1 ((75, I _) :: _) rfl <| qi 76 7 a0 ay b3 rfl rfl <| qF 77 rfl <| qF 78 rfl <| q_ 79 (fun _ c1 => oL (v := I ((ix p0.Paid a2).Claim.Serial)) ((a0.old c1).cell0 b3.1 b3.2 rfl)) <| qf 80 0 0 rfl <| qf 81 0 0 rfl <| qc 82 2 rfl rfl rfl <| qa 1 ((83, B _) :: _) rfl <| lq 11
   refine xm_next <| cc rfl (fun bh => ?_) (fun bh => ?_)
   ·refine sr <| la 3 ((86, I _) :: (85, I _) :: (84, S _ _ _) :: _) rfl <| v_ 87 (fun _ _ => op_build (z := [I 0, I 0, I 0]) (tab := [(0, 1), (1, 1), (2, 1)]) (cs := [I _, I _, I _]) [(0, [I _]), (1, [I _]), (2, [I _])] (by kernel_rfl) (by kernel_rfl) (fillOk_cons rfl rfl rfl (fillOk_cons rfl rfl rfl (fillOk_cons rfl rfl rfl fillOk_nil))) rfl) <| lm_slice1 88 (el := 64) (sz := 3) (bytes := 24) (enc := encApiFinding) (ApiFinding.mk 7 p1 a2) (by kernel_rfl) (by kernel_rfl) encApiFinding_len rfl (by kernel_rfl) fun ca cb cd ce => lm_ck (fun bi => ?_)
    exact ap 89 2 (el := 64) (sz := 3) (bytes := 24) (enc := encApiFinding) (l2 := ([(ApiFinding.mk 7 p1 a2)])) encApiFinding_len encApiFinding_one rfl rfl rfl (fun w1 c1 => (c1.ownZ 0 rfl)) (fun w1 c1 => (c1.own 0 rfl encApiFinding_len)) bi fun bj bk bl => la 1 ((5, S _ _ _) :: _) rfl <| nn <| cm_exit <| xm_pass (by kernel_rfl) <| xm_thenE <| xm_lexit <| xm_here <| xn (bj, bk, bl) [1, 2, 3]
   ·refine cm_skip <| xm_inN <| xm_next <| cm_region <| la 1 ((71, I _) :: _) rfl <| lm_ck (fun bm => ?_)
    exact va 72 bm rfl rfl <| la 1 ((8, I _) :: _) rfl <| lm_nil <| xn () [0, 1, 2]
  ·exact cm_exit <| xm_thenE <| xm_lexit <| xm_here <| xn (b.1, b.2.1, b.2.2) [0, 1, 2]
 intro au a
 refine cm_join (σ := Unit) (ξ := Unit) (fun bb bc => [(1, I p1), (5, S a.1 a.2.1 a.2.2)]) (fun bb bc => [ownE 64 3 encApiFinding a.1 a.2.1 a.2.2 au]) ?_ ?_
 ·refine sr <| la 1 ((9, I _) :: _) rfl <| nn <| cm_block <| cm_loop (σ := Int) (ξ := Unit) (fun av bd => [(1, I p1), (2, .pointer (some ⟨b5, 0, none⟩)), (5, S a.1 a.2.1 a.2.2), (6, .pointer (some ⟨aq, 0, none⟩)), (9, I av)]) (fun av bd => [blkE b5 40 [I p0.Now, S a3 a4 a5, S a6 a7 a8, S a9 aa ab, S ac ad ae, S af ag ah, I p0.Account.Gap, S ai aj ak, I p0.Inside, I p0.Bins, S am an ao, S q Y Z, S f t x, S d g i, S e l o, S y C G, S J K L, S M O Q, S U V X], ownE 64 3 encApiFinding a.1 a.2.1 a.2.2 au, blkE aq 152 [I ((ix p0.Paid p1).Claim.Serial), I ((ix p0.Paid p1).Claim.Machine), I ((ix p0.Paid p1).Claim.Seq), I ((ix p0.Paid p1).Claim.At), B ((ix p0.Paid p1).Claim.Paid), I ((ix p0.Paid p1).Product), I ((ix p0.Paid p1).Amount)]]) () ?_ ?_ ?_
  ·exact sq
  ·exact sh [0, 1, 2]
  intro av bd
  refine cm_seq <| sr <| la 1 ((90, I _) :: _) rfl <| vf 91 13 13 rfl <| vc 92 0 rfl rfl rfl <| vn 93 ax rfl <| la 1 ((94, B _) :: _) rfl <| nn <| cc rfl (fun bn => ?_) (fun bn => ?_)
  ·refine sk <| cm_seq <| cm_block <| cm_seq <| cm_ck (fun be => ?_)
   refine cm_drawn [(104, B (decide ((ix p0.Claims av) = (ix p0.Paid p1).Claim)))] (by kernel_rfl) (by kernel_rfl) ?_ ?_
   ·exact qf 97 13 13 rfl <| qc 98 0 rfl rfl rfl <| qa 1 ((99, I _) :: _) rfl <| qi 100 5 aw ax be rfl rfl <| qr 101 aw be rfl <| qf 102 0 0 rfl <| qR 103 [I _, I _, I _, I _, B _] 2 rfl rfl rfl <| q_ 104 (fun _ _ => op_eqApiClaim (ix p0.Claims av) ((ix p0.Paid p1).Claim) rfl rfl) <| lq 8
   refine xm_next <| cc rfl (fun bo => ?_) (fun bo => ?_)
   ·exact sr <| la 2 ((4, S _ _ _) :: (105, S _ _ _) :: _) rfl <| nn <| cm_ret <| xm_inR <| xm_thenR <| xm_lret <| xm_inR <| xm_lret <| xr [1] (a.1, a.2.1, a.2.2)
   ·refine cm_skip <| xm_inN <| xm_next <| cm_region <| la 1 ((95, I _) :: _) rfl <| lm_ck (fun bp => ?_)
    exact va 96 bp rfl rfl <| la 1 ((9, I _) :: _) rfl <| lm_nil <| xn () [0, 1, 2]
  ·exact cm_exit <| xm_thenE <| xm_lexit <| xm_here <| xn () [1]
 intro bb bc
 refine sr <| la 2 ((107, I _) :: (106, S _ _ _) :: _) rfl <| v_ 108 (fun _ _ => op_build (z := [I 0, I 0, I 0]) (tab := [(0, 1), (1, 1), (2, 1)]) (cs := [I _, I _, I _]) [(0, [I _]), (1, [I _])] (by kernel_rfl) (by kernel_rfl) (fillOk_cons rfl rfl rfl (fillOk_cons rfl rfl rfl fillOk_nil)) rfl) <| lm_slice1 109 (el := 64) (sz := 3) (bytes := 24) (enc := encApiFinding) (ApiFinding.mk 8 p1 0) (by kernel_rfl) (by kernel_rfl) encApiFinding_len rfl (by kernel_rfl) fun cf cg ch ci => lm_ck (fun bq => ?_)
 exact ap 110 1 (el := 64) (sz := 3) (bytes := 24) (enc := encApiFinding) (l2 := ([(ApiFinding.mk 8 p1 0)])) encApiFinding_len encApiFinding_one rfl rfl rfl (fun w1 c1 => (c1.ownZ 0 rfl)) (fun w1 c1 => (c1.own 0 rfl encApiFinding_len)) bq fun br bs bt => la 1 ((4, S _ _ _) :: _) rfl <| nn <| cm_ret <| xr [1] (br, bs, bt)
/-- recyclingref59.Deposits -/
def m_recyclingref59_Deposits (N : Nat) (p0 : ApiBooks) : Option ((List ApiFinding) × Int) :=
 (if ((((decide (64 < (List.length p0.Products : Int))) || (decide (512 < (List.length p0.Sales : Int)))) || (decide (512 < (List.length p0.Claims : Int)))) || (decide (512 < (List.length p0.Paid : Int)))) = true then
  some ((([] : List ApiFinding), (8 : Int)))
 else
  (andThen
   (loopM (fun (a : (List ApiFinding) × Int) =>
    (if a.2 < (List.length p0.Paid : Int) then
     Option.bind (m_recyclingref59_payout N p0 a.2) fun b => ck ((List.length a.1 + List.length b) * 24 ≤ 140737488355328) (
      ck (I64 (a.2 + 1)) (
       some (.next ((a.1 ++ b), (a.2 + 1)))))
    else
     some (.done (.next a.1)))) N (([] : List ApiFinding), (0 : Int)))
  fun (d : (List ApiFinding)) =>
   some ((d, (0 : Int)))))
set_option maxHeartbeats 2000000 in
set_option maxRecDepth 20000 in
theorem m_recyclingref59_Deposits_ok (N : Nat) (w0 : World) (p0 : ApiBooks) (Y : Ad) (Z a0 : Nat) (a1 : Ad) (a2 a3 : Nat) (a4 : Ad) (a5 a6 : Nat) (a7 : Ad) (a8 a9 : Nat) (aa : Ad) (ab ac : Nat) (ad : Ad) (ae af : Nat) (ag : Ad) (ah ai : Nat) (au : Int → Hdr) (f : Ad) (q t : Nat) (g : Ad) (v x : Nat) (a : Ad) (i j : Nat) (b : Ad) (l m : Nat) (y : Ad) (z C : Nat) (G : Ad) (J K : Nat) (L : Ad) (M O : Nat) (an : Int → Hdr) (Q : Ad) (U V : Nat) (ao : Int → Hdr) (av : RdE w0 5 encApiProduct f p0.Products) (aj : SW f q t (List.length p0.Products)) (aw : RdE w0 5 encApiSale g p0.Sales) (ak : SW g v x (List.length p0.Sales)) (aq : RdE w0 5 encApiClaim a p0.Claims) (X : SW a i j (List.length p0.Claims)) (ar : RdE w0 7 encApiPayout b p0.Paid) (o : SW b l m (List.length p0.Paid)) (r : (List ApiFinding) × Int) (hr : m_recyclingref59_Deposits N p0 = some r) :
  Ret Tryz.prog 34 [.agg #[I p0.Now, S Y Z a0, S a1 a2 a3, S a4 a5 a6, S a7 a8 a9, S aa ab ac, I p0.Account.Gap, S ad ae af, I p0.Inside, I p0.Bins, S ag ah ai, S f q t, S g v x, S a i j, S b l m, S y z C, S G J K, S L M O, S Q U V]] w0 (fun (r : (List ApiFinding) × Int) (u : Hdr) => .tuple #[S u.1 u.2.1 u.2.2, I r.2]) (fun (r : (List ApiFinding) × Int) (u : Hdr) => [ownE 64 3 encApiFinding u.1 u.2.1 u.2.2 r.1]) r := by
 refine calls_v (n := 42) r hr Tryz.func34 ?_
 unfold m_recyclingref59_Deposits
 refine sr <| bx 1 [I _, S _ _ _, S _ _ _, S _ _ _, S _ _ _, S _ _ _, I _, S _ _ _, I _, I _, S _ _ _, S _ _ _, S _ _ _, S _ _ _, S _ _ _, S _ _ _, S _ _ _, S _ _ _, S _ _ _] rfl fun b5 => la 2 ((3, I _) :: (2, S _ _ _) :: _) rfl <| nn <| cm_seq <| cm_seq <| cm_cutE [(27, B ((((decide (64 < (List.length p0.Products : Int))) || (decide (512 < (List.length p0.Sales : Int)))) || (decide (512 < (List.length p0.Claims : Int)))) || (decide (512 < (List.length p0.Paid : Int)))))] ?_ ?_
 ·refine qf 6 11 11 rfl <| qc 7 0 rfl rfl rfl <| qn 8 aj rfl <| qd 9 (fun _ _ => op_gtr rfl rfl) (fun h6 => ?_) (fun h6 => ?_)
  ·exact qa 18 ((27, B true) :: uz 26 4 ((22, B true) :: (21, B true) :: uz 20 4 ((16, B true) :: (15, B true) :: uz 14 4 ((10, B true) :: _)))) rfl <| lb 22 rfl (by rw [dt h6] <;> rfl)
  ·refine qa 1 ((10, B false) :: _) rfl <| qf 11 12 12 rfl <| qc 12 0 rfl rfl rfl <| qn 13 ak rfl <| qd 14 (fun _ _ => op_gtr rfl rfl) (fun h7 => ?_) (fun h7 => ?_)
   ·exact qa 13 ((27, B true) :: uz 26 4 ((22, B true) :: (21, B true) :: uz 20 4 ((16, B true) :: (15, B true) :: _))) rfl <| lb 22 rfl (by rw [df h6, dt h7] <;> rfl)
   ·refine qa 2 ((16, B false) :: (15, B false) :: _) rfl <| qf 17 13 13 rfl <| qc 18 0 rfl rfl rfl <| qn 19 X rfl <| qd 20 (fun _ _ => op_gtr rfl rfl) (fun h8 => ?_) (fun h8 => ?_)
    ·exact qa 7 ((27, B true) :: uz 26 4 ((22, B true) :: (21, B true) :: _)) rfl <| lb 22 rfl (by rw [df h6, df h7, dt h8] <;> rfl)
    ·exact qa 2 ((22, B false) :: (21, B false) :: _) rfl <| qf 23 14 14 rfl <| qc 24 0 rfl rfl rfl <| qn 25 o rfl <| qa 2 ((27, B _) :: (26, B _) :: _) rfl <| lb 22 rfl (by rw [df h6, df h7, df h8] <;> rfl)
 refine xm_next <| cB rfl (fun h9 => ?_) (fun h9 => ?_)
 ·exact sr <| la 2 ((3, I _) :: (2, S _ _ _) :: _) rfl <| nn <| cm_ret <| xm_thenR <| xm_nilrow 64 3 encApiFinding <| xrr [0] (none, 0, 0)
 ·refine sk <| sr <| lm_slice0 28 (el := 64) (sz := 3) (bytes := 24) (enc := encApiFinding) (by kernel_rfl) (by kernel_rfl) fun ay az b0 b9 => la 1 ((4, S _ _ _) :: _) rfl <| nn <| cm_join (σ := (List ApiFinding)) (ξ := Hdr) (fun ax d => [(4, S d.1 d.2.1 d.2.2)]) (fun ax d => [ownE 64 3 encApiFinding d.1 d.2.1 d.2.2 ax]) ?_ ?_
  ·refine sr <| la 1 ((5, I _) :: _) rfl <| nn <| cm_block <| cm_loop (σ := (List ApiFinding) × Int) (ξ := Hdr) (fun am e => [(1, .pointer (some ⟨b5, 0, none⟩)), (4, S e.1 e.2.1 e.2.2), (5, I am.2)]) (fun am e => [blkE b5 40 [I p0.Now, S Y Z a0, S a1 a2 a3, S a4 a5 a6, S a7 a8 a9, S aa ab ac, I p0.Account.Gap, S ad ae af, I p0.Inside, I p0.Bins, S ag ah ai, S f q t, S g v x, S a i j, S b l m, S y z C, S G J K, S L M O, S Q U V], ownE 64 3 encApiFinding e.1 e.2.1 e.2.2 am.1]) (ay, az, b0) ?_ ?_ ?_
   ·exact sq
   ·exact sh [1, 0]
   intro am e
   refine cm_seq <| sr <| la 1 ((29, I _) :: _) rfl <| vf 30 14 14 rfl <| vc 31 0 rfl rfl rfl <| vn 32 o rfl <| la 1 ((33, B _) :: _) rfl <| nn <| cc rfl (fun b1 => ?_) (fun b1 => ?_)
   ·refine sk <| cm_seq <| cm_block <| cm_region <| la 1 ((36, S _ _ _) :: _) rfl <| vR 37 [I _, S _ _ _, S _ _ _, S _ _ _, S _ _ _, S _ _ _, I _, S _ _ _, I _, I _, S _ _ _, S _ _ _, S _ _ _, S _ _ _, S _ _ _, S _ _ _, S _ _ _, S _ _ _, S _ _ _] 0 rfl rfl rfl <| la 1 ((38, I _) :: _) rfl <| lc 39 (fun r1 hr1 w1 c1 => m_recyclingref59_payout_ok N w1 p0 am.2 Y Z a0 a1 a2 a3 a4 a5 a6 a7 a8 a9 aa ab ac ad ae af ag ah ai au f q t g v x a i j b l m y z C G J K L M O an Q U V ao (av.old c1) aj (aw.old c1) ak (aq.old c1) X (ar.old c1) o r1 hr1) fun b2 ba => lm_ck (fun b3 => ?_)
    refine ap 40 2 (el := 64) (sz := 3) (bytes := 24) (enc := encApiFinding) (l2 := b2) encApiFinding_len encApiFinding_one rfl rfl rfl (fun w1 c1 => (c1.ownZ 0 rfl)) (fun w1 c1 => (c1.own 0 rfl encApiFinding_len)) b3 fun b4 b6 b7 => la 1 ((4, S _ _ _) :: _) rfl <| lm_nil <| xm_inN <| xm_next <| cm_region <| la 1 ((34, I _) :: _) rfl <| lm_ck (fun b8 => ?_)
    exact va 35 b8 rfl rfl <| la 1 ((5, I _) :: _) rfl <| lm_nil <| xn (b4, b6, b7) [1, 2]
   ·exact cm_exit <| xm_thenE <| xm_lexit <| xm_here <| xn (e.1, e.2.1, e.2.2) [1]
  intro ax d
  exact sr <| la 3 ((3, I _) :: (2, S _ _ _) :: (41, S _ _ _) :: _) rfl <| nn <| cm_ret <| xrr [0] (d.1, d.2.1, d.2.2)
end Go.Proofs.YtbnimhmoffchdaaGreatDoor
