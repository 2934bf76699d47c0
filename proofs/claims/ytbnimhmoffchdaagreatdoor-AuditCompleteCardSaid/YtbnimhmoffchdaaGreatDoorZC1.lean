/- Models of functions, and that the code follows them. Written by deco.py. -/
import Derived.Test.YtbnimhmoffchdaaGreatDoorZP6
namespace Go.Proofs.YtbnimhmoffchdaaGreatDoor
open Go.RowKit
set_option linter.unusedSectionVars false
variable [JF]

/-- audit.Fees -/
def m_audit_Fees (N : Nat) (p0 : ApiBooks) : Option ((List ApiFinding) × Int) :=
 (if ((decide (16 < (List.length p0.Costs : Int))) || (decide (512 < (List.length p0.Fees : Int)))) = true then
  some ((([] : List ApiFinding), (8 : Int)))
 else
  Option.bind (m_audit_collector N ([] : List ApiFinding)) fun r9 => (andThen
   (loopM (fun (b : (List ApiFinding) × Int) =>
    (if b.2 < (List.length p0.Costs : Int) then
     (andThen
      (ck (0 ≤ b.2 ∧ b.2 < (List.length p0.Costs : Int)) (
       (andThen
        (loopM (fun (a : Int × Bool × Int) =>
         (if a.2.2 < (List.length p0.Fees : Int) then
          (andThen
           (ck (0 ≤ a.2.2 ∧ a.2.2 < (List.length p0.Fees : Int)) (
            (if (ix p0.Fees a.2.2).Material ≠ b.2 then
             some (.next (a.1, a.2.1))
            else
             (if ((a.2.1 && (decide (0 ≤ (ix p0.Fees a.2.2).Amount))) && (decide ((ix p0.Fees a.2.2).Amount ≤ 1000000000000))) = true then
              ck (I64 (a.1 + ((ix p0.Fees a.2.2).Amount))) (
               some (.next ((a.1 + ((ix p0.Fees a.2.2).Amount)), ((a.2.1 && (decide (0 ≤ (ix p0.Fees a.2.2).Amount))) && (decide ((ix p0.Fees a.2.2).Amount ≤ 1000000000000))))))
             else
              some (.next (a.1, ((a.2.1 && (decide (0 ≤ (ix p0.Fees a.2.2).Amount))) && (decide ((ix p0.Fees a.2.2).Amount ≤ 1000000000000)))))))))
          fun (e : Int × Bool) =>
           ck (I64 (a.2.2 + 1)) (
            some (.next (e.1, e.2, (a.2.2 + 1)))))
         else
          some (.done (.next (a.1, a.2.1))))) N ((0 : Int), true, (0 : Int)))
       fun (f : Int × Bool) =>
        (if ((!f.2) || (decide (f.1 ≠ (ix p0.Costs b.2)))) = true then
         Option.bind (m_audit_collector_1 N (9 : Int) b.2 (0 : Int) () b.1) fun _m => some (.next (b.1 ++ ([(ApiFinding.mk (9 : Int) b.2 (0 : Int))])))
        else
         some (.next b.1)))))
     fun (g : (List ApiFinding)) =>
      ck (I64 (b.2 + 1)) (
       some (.next (g, (b.2 + 1)))))
    else
     some (.done (.next b.1)))) N (r9, (0 : Int)))
  fun (l : (List ApiFinding)) =>
   (andThen
    (loopM (fun (d : (List ApiFinding) × Int) =>
     (if d.2 < (List.length p0.Fees : Int) then
      (andThen
       (ck (0 ≤ d.2 ∧ d.2 < (List.length p0.Fees : Int)) (
        (if ((decide ((ix p0.Fees d.2).Material < 0)) || (decide ((List.length p0.Costs : Int) ≤ (ix p0.Fees d.2).Material))) = true then
         Option.bind (m_audit_collector_1 N (9 : Int) ((ix p0.Fees d.2).Material) (0 : Int) () d.1) fun _o => some (.next (d.1 ++ ([(ApiFinding.mk (9 : Int) ((ix p0.Fees d.2).Material) (0 : Int))])))
        else
         some (.next d.1))))
      fun (i : (List ApiFinding)) =>
       ck (I64 (d.2 + 1)) (
        some (.next (i, (d.2 + 1)))))
     else
      some (.done (.next d.1)))) N (l, (0 : Int)))
   fun (j : (List ApiFinding)) =>
    some ((j, (0 : Int))))))
set_option maxHeartbeats 2000000 in
set_option maxRecDepth 20000 in
theorem m_audit_Fees_ok (N : Nat) (w0 : World) (p0 : ApiBooks) (Q : Ad) (U X : Nat) (Y : Ad) (Z a0 : Nat) (a1 : Ad) (a2 a3 : Nat) (a4 : Ad) (a5 a6 : Nat) (a7 : Ad) (a8 a9 : Nat) (aa : Ad) (ab ac : Nat) (ad : Ad) (ae af : Nat) (_c0 : Int → Hdr) (ag : Ad) (ah ai : Nat) (aj : Ad) (ak am : Nat) (m : Ad) (o q : Nat) (t : Ad) (x y : Nat) (b : Ad) (d e : Nat) (f : Ad) (g i : Nat) (z : Ad) (C G : Nat) (_bw : Int → Hdr) (J : Ad) (K L : Nat) (_bz : Int → Hdr) (b2 : RdE w0 1 encI b p0.Costs) (ax : SW b d e (List.length p0.Costs)) (ay : RdE w0 3 encApiFee f p0.Fees) (aw : SW f g i (List.length p0.Fees)) (r : (List ApiFinding) × Int) (hr : m_audit_Fees N p0 = some r) :
  Ret Tryz.prog 38 [.agg #[I p0.Now, S Q U X, S Y Z a0, S a1 a2 a3, S a4 a5 a6, S a7 a8 a9, I p0.Account.Gap, S aa ab ac, I p0.Inside, I p0.Bins, S ad ae af, S ag ah ai, S aj ak am, S m o q, S t x y, S b d e, S f g i, S z C G, S J K L]] w0 (fun (r : (List ApiFinding) × Int) (u : Hdr) => .tuple #[S u.1 u.2.1 u.2.2, I r.2]) (fun (r : (List ApiFinding) × Int) (u : Hdr) => [ownE 64 3 encApiFinding u.1 u.2.1 u.2.2 r.1]) r := by
 refine calls_v (n := 96) r hr Tryz.func38 ?_
 unfold m_audit_Fees
 refine sr <| bx 1 [I _, S _ _ _, S _ _ _, S _ _ _, S _ _ _, S _ _ _, I _, S _ _ _, I _, I _, S _ _ _, S _ _ _, S _ _ _, S _ _ _, S _ _ _, S _ _ _, S _ _ _, S _ _ _, S _ _ _] rfl fun b5 => la 2 ((3, I _) :: (2, S _ _ _) :: _) rfl <| nn <| cm_seq <| cm_seq <| cm_cutE [(23, B ((decide (16 < (List.length p0.Costs : Int))) || (decide (512 < (List.length p0.Fees : Int)))))] ?_ ?_
 ·refine qf 14 15 15 rfl <| qc 15 0 rfl rfl rfl <| qn 16 ax rfl <| qd 17 (fun _ _ => op_gtr rfl rfl) (fun h6 => ?_) (fun h6 => ?_)
  ·exact qa 6 ((23, B true) :: uz 22 4 ((18, B true) :: _)) rfl <| lb 10 rfl (by rw [dt h6] <;> rfl)
  ·exact qa 1 ((18, B false) :: _) rfl <| qf 19 16 16 rfl <| qc 20 0 rfl rfl rfl <| qn 21 aw rfl <| qa 2 ((23, B _) :: (22, B _) :: _) rfl <| lb 10 rfl (by rw [df h6] <;> rfl)
 refine xm_next <| cB rfl (fun h7 => ?_) (fun h7 => ?_)
 ·exact sr <| la 2 ((3, I _) :: (2, S _ _ _) :: _) rfl <| nn <| cm_ret <| xm_thenR <| xm_nilrow 64 3 encApiFinding <| xrr [0] (none, 0, 0)
 ·refine sk <| sr <| al 4 [S none 0 0] (v := S none 0 0) rfl fun b8 => nn <| sr <| lm_nilrow 64 3 encApiFinding <| lm_callH 24 (V := (fun (_r : (List ApiFinding)) (u : Nat) => (.func (.func 58) #[] #[.pointer (some ⟨u, 0, none⟩)] : Value))) [blkE b8 43 [S none 0 0], ownE 64 3 encApiFinding none 0 0 ([] : List ApiFinding)] [blkE b5 40 [I p0.Now, S Q U X, S Y Z a0, S a1 a2 a3, S a4 a5 a6, S a7 a8 a9, I p0.Account.Gap, S aa ab ac, I p0.Inside, I p0.Bins, S ad ae af, S ag ah ai, S aj ak am, S m o q, S t x y, S b d e, S f g i, S z C G, S J K L]] (O := (fun (r : (List ApiFinding)) (u : Nat) => [blkE u 70 [.pointer (some ⟨b8, 0, none⟩)], blkE b8 43 [S none 0 0], ownE 64 3 encApiFinding none 0 0 r])) (sh [1, 0, 2]) (by kernel_rfl) (fun w1 => op_call (by kernel_rfl)) (fun r1 hr1 w1 c1 => m_audit_collector_ok N w0 w1 [blkE b5 40 [I p0.Now, S Q U X, S Y Z a0, S a1 a2 a3, S a4 a5 a6, S a7 a8 a9, I p0.Account.Gap, S aa ab ac, I p0.Inside, I p0.Bins, S ad ae af, S ag ah ai, S aj ak am, S m o q, S t x y, S b d e, S f g i, S z C G, S J K L]] ([] : List ApiFinding) b8 none 0 0  c1 r1 hr1) fun r9 an => la 1 ((5, .func _ _ _) :: _) rfl <| nn <| cm_join (σ := (List ApiFinding)) (ξ := Hdr) (fun be av => [(1, .pointer (some ⟨b5, 0, none⟩)), (4, .pointer (some ⟨b8, 0, none⟩)), (5, .func (.func 58) #[] #[.pointer (some ⟨an, 0, none⟩)])]) (fun be av => [blkE b5 40 [I p0.Now, S Q U X, S Y Z a0, S a1 a2 a3, S a4 a5 a6, S a7 a8 a9, I p0.Account.Gap, S aa ab ac, I p0.Inside, I p0.Bins, S ad ae af, S ag ah ai, S aj ak am, S m o q, S t x y, S b d e, S f g i, S z C G, S J K L], blkE b8 43 [S av.1 av.2.1 av.2.2], ownE 64 3 encApiFinding av.1 av.2.1 av.2.2 be, blkE an 70 [.pointer (some ⟨b8, 0, none⟩)]]) ?_ ?_
  ·refine sr <| vf 25 15 15 rfl <| vc 26 3 rfl rfl rfl <| vn 27 ax rfl <| la 1 ((28, I _) :: _) rfl <| nn <| cm_block <| cm_loop (σ := (List ApiFinding) × Int) (ξ := Hdr) (fun j a => [(1, .pointer (some ⟨b5, 0, none⟩)), (4, .pointer (some ⟨b8, 0, none⟩)), (5, .func (.func 58) #[] #[.pointer (some ⟨an, 0, none⟩)]), (26, S b d e), (27, I (List.length p0.Costs : Int)), (28, I j.2)]) (fun j a => [blkE b5 40 [I p0.Now, S Q U X, S Y Z a0, S a1 a2 a3, S a4 a5 a6, S a7 a8 a9, I p0.Account.Gap, S aa ab ac, I p0.Inside, I p0.Bins, S ad ae af, S ag ah ai, S aj ak am, S m o q, S t x y, S b d e, S f g i, S z C G, S J K L], blkE b8 43 [S a.1 a.2.1 a.2.2], ownE 64 3 encApiFinding a.1 a.2.1 a.2.2 j.1, blkE an 70 [.pointer (some ⟨b8, 0, none⟩)]]) (none, 0, 0) ?_ ?_ ?_
   ·exact sq
   ·exact sh [3, 1, 2, 0]
   intro j a
   refine sr <| la 1 ((29, B _) :: _) rfl <| nn <| cm_seq <| cc rfl (fun bl => ?_) (fun bl => ?_)
   ·refine sk <| cm_join (σ := (List ApiFinding)) (ξ := Hdr) (fun b3 ao => [(1, .pointer (some ⟨b5, 0, none⟩)), (4, .pointer (some ⟨b8, 0, none⟩)), (5, .func (.func 58) #[] #[.pointer (some ⟨an, 0, none⟩)]), (26, S b d e), (27, I (List.length p0.Costs : Int)), (28, I j.2)]) (fun b3 ao => [blkE b5 40 [I p0.Now, S Q U X, S Y Z a0, S a1 a2 a3, S a4 a5 a6, S a7 a8 a9, I p0.Account.Gap, S aa ab ac, I p0.Inside, I p0.Bins, S ad ae af, S ag ah ai, S aj ak am, S m o q, S t x y, S b d e, S f g i, S z C G, S J K L], blkE b8 43 [S ao.1 ao.2.1 ao.2.2], ownE 64 3 encApiFinding ao.1 ao.2.1 ao.2.2 b3, blkE an 70 [.pointer (some ⟨b8, 0, none⟩)]]) ?_ ?_
    ·refine cm_block <| sr <| la 1 ((30, I _) :: _) rfl <| lm_ck (fun b4 => ?_)
     refine vi 31 1 b2 ax b4 rfl rfl <| v_ 32 (fun _ c1 => oL (v := I (ix p0.Costs j.2)) ((b2.old c1).cell0 b4.1 b4.2 rfl)) <| la 2 ((7, I _) :: (6, I _) :: _) rfl <| nn <| sr <| la 2 ((9, B true) :: (8, I _) :: _) rfl <| nn <| cm_join (σ := Int × Bool) (ξ := Unit) (fun az bf => [(1, .pointer (some ⟨b5, 0, none⟩)), (4, .pointer (some ⟨b8, 0, none⟩)), (5, .func (.func 58) #[] #[.pointer (some ⟨an, 0, none⟩)]), (6, I j.2), (7, I (ix p0.Costs j.2)), (8, I az.1), (9, B az.2), (26, S b d e), (27, I (List.length p0.Costs : Int)), (28, I j.2)]) (fun az bf => [blkE b5 40 [I p0.Now, S Q U X, S Y Z a0, S a1 a2 a3, S a4 a5 a6, S a7 a8 a9, I p0.Account.Gap, S aa ab ac, I p0.Inside, I p0.Bins, S ad ae af, S ag ah ai, S aj ak am, S m o q, S t x y, S b d e, S f g i, S z C G, S J K L], blkE b8 43 [S a.1 a.2.1 a.2.2], ownE 64 3 encApiFinding a.1 a.2.1 a.2.2 j.1, blkE an 70 [.pointer (some ⟨b8, 0, none⟩)]]) ?_ ?_
     ·refine sr <| vf 33 16 16 rfl <| vc 34 0 rfl rfl rfl <| vn 35 aw rfl <| la 1 ((36, I _) :: _) rfl <| nn <| cm_block <| cm_loop (σ := Int × Bool × Int) (ξ := Unit) (fun au bg => [(1, .pointer (some ⟨b5, 0, none⟩)), (4, .pointer (some ⟨b8, 0, none⟩)), (5, .func (.func 58) #[] #[.pointer (some ⟨an, 0, none⟩)]), (6, I j.2), (7, I (ix p0.Costs j.2)), (8, I au.1), (9, B au.2.1), (26, S b d e), (27, I (List.length p0.Costs : Int)), (28, I j.2), (34, S f g i), (35, I (List.length p0.Fees : Int)), (36, I au.2.2)]) (fun au bg => [blkE b5 40 [I p0.Now, S Q U X, S Y Z a0, S a1 a2 a3, S a4 a5 a6, S a7 a8 a9, I p0.Account.Gap, S aa ab ac, I p0.Inside, I p0.Bins, S ad ae af, S ag ah ai, S aj ak am, S m o q, S t x y, S b d e, S f g i, S z C G, S J K L], blkE b8 43 [S a.1 a.2.1 a.2.2], ownE 64 3 encApiFinding a.1 a.2.1 a.2.2 j.1, blkE an 70 [.pointer (some ⟨b8, 0, none⟩)]]) () ?_ ?_ ?_
      ·exact sq
      ·exact sh [0, 1, 2, 3]
      intro au bg
      refine sr <| la 1 ((37, B _) :: _) rfl <| nn <| cm_seq <| cc rfl (fun bm => ?_) (fun bm => ?_)
      ·refine sk <| cm_join (σ := Int × Bool) (ξ := Unit) (fun b0 bh => [(1, .pointer (some ⟨b5, 0, none⟩)), (4, .pointer (some ⟨b8, 0, none⟩)), (5, .func (.func 58) #[] #[.pointer (some ⟨an, 0, none⟩)]), (6, I j.2), (7, I (ix p0.Costs j.2)), (8, I b0.1), (9, B b0.2), (26, S b d e), (27, I (List.length p0.Costs : Int)), (28, I j.2), (34, S f g i), (35, I (List.length p0.Fees : Int)), (36, I au.2.2)]) (fun b0 bh => [blkE b5 40 [I p0.Now, S Q U X, S Y Z a0, S a1 a2 a3, S a4 a5 a6, S a7 a8 a9, I p0.Account.Gap, S aa ab ac, I p0.Inside, I p0.Bins, S ad ae af, S ag ah ai, S aj ak am, S m o q, S t x y, S b d e, S f g i, S z C G, S J K L], blkE b8 43 [S a.1 a.2.1 a.2.2], ownE 64 3 encApiFinding a.1 a.2.1 a.2.2 j.1, blkE an 70 [.pointer (some ⟨b8, 0, none⟩)]]) ?_ ?_
       ·refine cm_block <| sr <| lm_ck (fun bi => ?_)
        refine vi 38 3 ay aw bi rfl rfl <| vr 39 ay bi rfl <| al 11 [I 0, I 0, I 0] (v := .agg #[I 0, I 0, I 0]) rfl fun c2 => sA 0 [I _, I _, I _] [_, _, _] (H' := [blkE _ _ [_, _, _], _, _, _, _]) rfl rfl rfl rfl rfl rfl <| nn <| cm_seq <| sr <| vf 40 1 1 rfl <| vc 41 0 rfl rfl rfl <| la 2 ((43, B _) :: (42, I _) :: _) rfl <| nn <| cc rfl (fun bn => ?_) (fun bn => ?_)
        ·exact cm_exit <| xm_thenE <| xm_here <| xn () [1, 2, 3, 4]
        ·refine sk <| cm_seq <| cm_cutE [(9, B ((au.2.1 && (decide (0 ≤ (ix p0.Fees au.2.2).Amount))) && (decide ((ix p0.Fees au.2.2).Amount ≤ 1000000000000))))] ?_ ?_
         ·refine wq_bool 44 (by kernel_rfl) (fun w1 c1 => (op_move (v := B _) rfl)) (fun b1 => ?_) (fun b1 => ?_)
          ·refine qa 1 ((45, B true) :: _) rfl <| qf 46 2 2 rfl <| qc 47 0 rfl rfl rfl <| qd 48 (fun _ _ => op_geq rfl rfl) (fun b6 => ?_) (fun b6 => ?_)
           ·exact qa 2 ((50, B true) :: (49, B true) :: _) rfl <| qf 51 2 2 rfl <| qc 52 0 rfl rfl rfl <| qa 3 ((9, B _) :: (54, B _) :: (53, B _) :: _) rfl <| lb 12 rfl (by rw [b1, dt b6] <;> rfl)
           ·exact qa 7 ((9, B false) :: (54, B false) :: uz 53 3 ((50, B false) :: (49, B false) :: _)) rfl <| lb 12 rfl (by rw [b1, df b6] <;> rfl)
          ·exact qa 11 ((9, B false) :: (54, B false) :: uz 53 3 ((50, B false) :: (49, B false) :: uz 48 3 ((45, B false) :: _))) rfl <| lb 12 rfl (by rw [b1] <;> rfl)
         refine xm_next <| sr <| la 1 ((55, B _) :: _) rfl <| nn <| cB rfl (fun bo => ?_) (fun bo => ?_)
         ·refine cm_region <| la 1 ((56, I _) :: _) rfl <| vf 57 2 2 rfl <| vc 58 0 rfl rfl rfl <| lm_ck (fun bp => ?_)
          exact va 59 bp rfl rfl <| la 1 ((8, I _) :: _) rfl <| lm_nil <| xm_inN <| xn () [1, 2, 3, 4]
         ·exact cm_skip <| xm_inN <| xn () [1, 2, 3, 4]
       intro b0 bh
       refine cm_region <| lm_ck (fun bq => ?_)
       exact va 60 bq rfl rfl <| la 1 ((36, I _) :: _) rfl <| lm_nil <| xn () [0, 1, 2, 3]
      ·exact cm_exit <| xm_thenE <| xm_lexit <| xm_here <| xn () [0, 1, 2, 3]
     intro az bf
     refine cm_seq <| cm_cutE [(67, B ((!az.2) || (decide (az.1 ≠ (ix p0.Costs j.2)))))] ?_ ?_
     ·refine wq_bool 61 (by kernel_rfl) (fun w1 c1 => (op_move (v := B _) rfl)) (fun b7 => ?_) (fun b7 => ?_)
      ·exact qa 6 ((67, B _) :: (66, B _) :: (65, I _) :: (64, I _) :: (63, B false) :: (62, B false) :: _) rfl <| lb 7 rfl (by rw [b7] <;> rfl)
      ·exact qa 6 ((67, B true) :: uz 66 3 ((63, B true) :: (62, B true) :: _)) rfl <| lb 7 rfl (by rw [b7] <;> rfl)
     refine xm_next <| cB rfl (fun br => ?_) (fun br => ?_)
     ·exact cm_region <| la 2 ((69, I _) :: (68, .func _ _ _) :: _) rfl <| lm_callH 70 (V := (fun (_r : Unit) (_u : Hdr) => (.tuple #[] : Value))) [blkE an 70 [.pointer (some ⟨b8, 0, none⟩)], blkE b8 43 [S a.1 a.2.1 a.2.2], ownE 64 3 encApiFinding a.1 a.2.1 a.2.2 j.1] [blkE b5 40 [I p0.Now, S Q U X, S Y Z a0, S a1 a2 a3, S a4 a5 a6, S a7 a8 a9, I p0.Account.Gap, S aa ab ac, I p0.Inside, I p0.Bins, S ad ae af, S ag ah ai, S aj ak am, S m o q, S t x y, S b d e, S f g i, S z C G, S J K L]] (O := (fun (_r : Unit) (u : Hdr) => [blkE an 70 [.pointer (some ⟨b8, 0, none⟩)], blkE b8 43 [S u.1 u.2.1 u.2.2], ownE 64 3 encApiFinding u.1 u.2.1 u.2.2 (j.1 ++ ([(ApiFinding.mk (9 : Int) j.2 (0 : Int))]))])) (sh [3, 1, 2, 0]) (by kernel_rfl) (fun w1 => op_callv rfl (by kernel_rfl)) (fun r1 hr1 w1 c1 => m_audit_collector_1_ok N w0 w1 [blkE b5 40 [I p0.Now, S Q U X, S Y Z a0, S a1 a2 a3, S a4 a5 a6, S a7 a8 a9, I p0.Account.Gap, S aa ab ac, I p0.Inside, I p0.Bins, S ad ae af, S ag ah ai, S aj ak am, S m o q, S t x y, S b d e, S f g i, S z C G, S J K L]] (9 : Int) j.2 (0 : Int) () j.1 an b8 a.1 a.2.1 a.2.2  c1 r1 hr1) fun c3 b9 => lm_nil <| xm_inN <| xn (b9.1, b9.2.1, b9.2.2) [3, 1, 2, 0]
     ·exact cm_skip <| xm_inN <| xn (a.1, a.2.1, a.2.2) [0, 1, 2, 3]
    intro b3 ao
    refine cm_region <| lm_ck (fun bs => ?_)
    exact va 71 bs rfl rfl <| la 1 ((28, I _) :: _) rfl <| lm_nil <| xn (ao.1, ao.2.1, ao.2.2) [0, 1, 2, 3]
   ·exact cm_exit <| xm_thenE <| xm_lexit <| xm_here <| xn (a.1, a.2.1, a.2.2) [0, 1, 2, 3]
  intro be av
  refine cm_join (σ := (List ApiFinding)) (ξ := Hdr) (fun ba aq => [(4, .pointer (some ⟨b8, 0, none⟩))]) (fun ba aq => [blkE b8 43 [S aq.1 aq.2.1 aq.2.2], ownE 64 3 encApiFinding aq.1 aq.2.1 aq.2.2 ba]) ?_ ?_
  ·refine sr <| vf 72 16 16 rfl <| vc 73 0 rfl rfl rfl <| vn 74 aw rfl <| la 1 ((75, I _) :: _) rfl <| nn <| cm_block <| cm_loop (σ := (List ApiFinding) × Int) (ξ := Hdr) (fun M l => [(1, .pointer (some ⟨b5, 0, none⟩)), (4, .pointer (some ⟨b8, 0, none⟩)), (5, .func (.func 58) #[] #[.pointer (some ⟨an, 0, none⟩)]), (73, S f g i), (74, I (List.length p0.Fees : Int)), (75, I M.2)]) (fun M l => [blkE b5 40 [I p0.Now, S Q U X, S Y Z a0, S a1 a2 a3, S a4 a5 a6, S a7 a8 a9, I p0.Account.Gap, S aa ab ac, I p0.Inside, I p0.Bins, S ad ae af, S ag ah ai, S aj ak am, S m o q, S t x y, S b d e, S f g i, S z C G, S J K L], blkE b8 43 [S l.1 l.2.1 l.2.2], ownE 64 3 encApiFinding l.1 l.2.1 l.2.2 M.1, blkE an 70 [.pointer (some ⟨b8, 0, none⟩)]]) (av.1, av.2.1, av.2.2) ?_ ?_ ?_
   ·exact sq
   ·exact sh [0, 1, 2, 3]
   intro M l
   refine sr <| la 1 ((76, B _) :: _) rfl <| nn <| cm_seq <| cc rfl (fun bt => ?_) (fun bt => ?_)
   ·refine sk <| cm_join (σ := (List ApiFinding)) (ξ := Hdr) (fun bb ar => [(1, .pointer (some ⟨b5, 0, none⟩)), (4, .pointer (some ⟨b8, 0, none⟩)), (5, .func (.func 58) #[] #[.pointer (some ⟨an, 0, none⟩)]), (73, S f g i), (74, I (List.length p0.Fees : Int)), (75, I M.2)]) (fun bb ar => [blkE b5 40 [I p0.Now, S Q U X, S Y Z a0, S a1 a2 a3, S a4 a5 a6, S a7 a8 a9, I p0.Account.Gap, S aa ab ac, I p0.Inside, I p0.Bins, S ad ae af, S ag ah ai, S aj ak am, S m o q, S t x y, S b d e, S f g i, S z C G, S J K L], blkE b8 43 [S ar.1 ar.2.1 ar.2.2], ownE 64 3 encApiFinding ar.1 ar.2.1 ar.2.2 bb, blkE an 70 [.pointer (some ⟨b8, 0, none⟩)]]) ?_ ?_
    ·refine cm_block <| sr <| lm_ck (fun bj => ?_)
     refine vi 77 3 ay aw bj rfl rfl <| vr 78 ay bj rfl <| al 13 [I 0, I 0, I 0] (v := .agg #[I 0, I 0, I 0]) rfl fun bk => sA 0 [I _, I _, I _] [_, _, _] (H' := [blkE _ _ [_, _, _], _, _, _, _]) rfl rfl rfl rfl rfl rfl <| nn <| cm_seq <| cm_cutE [(89, B ((decide ((ix p0.Fees M.2).Material < 0)) || (decide ((List.length p0.Costs : Int) ≤ (ix p0.Fees M.2).Material))))] ?_ ?_
     ·refine qf 79 1 1 rfl <| qc 80 0 rfl rfl rfl <| qd 81 (fun _ _ => op_lss rfl rfl) (fun bc => ?_) (fun bc => ?_)
      ·exact qa 8 ((89, B true) :: uz 88 6 ((82, B true) :: _)) rfl <| lb 11 rfl (by rw [dt bc] <;> rfl)
      ·exact qa 1 ((82, B false) :: _) rfl <| qf 83 1 1 rfl <| qc 84 0 rfl rfl rfl <| qf 85 15 15 rfl <| qc 86 1 rfl rfl rfl <| qn 87 ax rfl <| qa 2 ((89, B _) :: (88, B _) :: _) rfl <| lb 11 rfl (by rw [df bc] <;> rfl)
     refine xm_next <| cB rfl (fun bu => ?_) (fun bu => ?_)
     ·exact cm_region <| la 1 ((90, .func _ _ _) :: _) rfl <| vf 91 1 1 rfl <| vc 92 0 rfl rfl rfl <| lm_callH 93 (V := (fun (_r : Unit) (_u : Hdr) => (.tuple #[] : Value))) [blkE an 70 [.pointer (some ⟨b8, 0, none⟩)], blkE b8 43 [S l.1 l.2.1 l.2.2], ownE 64 3 encApiFinding l.1 l.2.1 l.2.2 M.1] [blkE bk 144 [I ((ix p0.Fees M.2).Producer), I ((ix p0.Fees M.2).Material), I ((ix p0.Fees M.2).Amount)], blkE b5 40 [I p0.Now, S Q U X, S Y Z a0, S a1 a2 a3, S a4 a5 a6, S a7 a8 a9, I p0.Account.Gap, S aa ab ac, I p0.Inside, I p0.Bins, S ad ae af, S ag ah ai, S aj ak am, S m o q, S t x y, S b d e, S f g i, S z C G, S J K L]] (O := (fun (_r : Unit) (u : Hdr) => [blkE an 70 [.pointer (some ⟨b8, 0, none⟩)], blkE b8 43 [S u.1 u.2.1 u.2.2], ownE 64 3 encApiFinding u.1 u.2.1 u.2.2 (M.1 ++ ([(ApiFinding.mk (9 : Int) ((ix p0.Fees M.2).Material) (0 : Int))]))])) (sh [4, 2, 3, 0, 1]) (by kernel_rfl) (fun w1 => op_callv rfl (by kernel_rfl)) (fun r1 hr1 w1 c1 => m_audit_collector_1_ok N w0 w1 [blkE bk 144 [I ((ix p0.Fees M.2).Producer), I ((ix p0.Fees M.2).Material), I ((ix p0.Fees M.2).Amount)], blkE b5 40 [I p0.Now, S Q U X, S Y Z a0, S a1 a2 a3, S a4 a5 a6, S a7 a8 a9, I p0.Account.Gap, S aa ab ac, I p0.Inside, I p0.Bins, S ad ae af, S ag ah ai, S aj ak am, S m o q, S t x y, S b d e, S f g i, S z C G, S J K L]] (9 : Int) ((ix p0.Fees M.2).Material) (0 : Int) () M.1 an b8 l.1 l.2.1 l.2.2  c1 r1 hr1) fun c4 bd => lm_nil <| xm_inN <| xn (bd.1, bd.2.1, bd.2.2) [4, 1, 2, 0]
     ·exact cm_skip <| xm_inN <| xn (l.1, l.2.1, l.2.2) [1, 2, 3, 4]
    intro bb ar
    refine cm_region <| lm_ck (fun bv => ?_)
    exact va 94 bv rfl rfl <| la 1 ((75, I _) :: _) rfl <| lm_nil <| xn (ar.1, ar.2.1, ar.2.2) [0, 1, 2, 3]
   ·exact cm_exit <| xm_thenE <| xm_lexit <| xm_here <| xn (l.1, l.2.1, l.2.2) [1, 2]
  intro ba aq
  exact sr <| vc 95 0 rfl rfl rfl <| la 2 ((3, I _) :: (2, S _ _ _) :: _) rfl <| nn <| cm_ret <| xrr [1] (aq.1, aq.2.1, aq.2.2)
/-- ledger.line -/
def m_ledger_line (_N : Nat) (p0 : ApiLine) : Option (Bool) :=
 some ((((((decide (0 ≤ p0.Account)) && (decide (p0.Account ≤ 1000000))) && (decide (p0.Amount ≠ 0))) && (decide (-1000000000000 ≤ p0.Amount))) && (decide (p0.Amount ≤ 1000000000000))))
set_option maxRecDepth 20000 in
theorem m_ledger_line_ok (N : Nat) (w0 : World) (p0 : ApiLine)   (r : Bool) (hr : m_ledger_line N p0 = some r) :
  Ret Tryz.prog 132 [.agg #[I p0.Account, I p0.Amount]] w0 VB H0 r := by
 refine calls_v (n := 26) r hr Tryz.func132 ?_
 unfold m_ledger_line
 refine sr <| bx 1 [I _, I _] rfl fun b5 => la 1 ((2, B false) :: _) rfl <| nn <| cm_seq <| cm_cutE [(2, B (((((decide (0 ≤ p0.Account)) && (decide (p0.Account ≤ 1000000))) && (decide (p0.Amount ≠ 0))) && (decide (-1000000000000 ≤ p0.Amount))) && (decide (p0.Amount ≤ 1000000000000))))] ?_ ?_
 ·refine qf 3 0 0 rfl <| qc 4 0 rfl rfl rfl <| qd 5 (fun _ _ => op_geq rfl rfl) (fun h6 => ?_) (fun h6 => ?_)
  ·refine qa 1 ((6, B true) :: _) rfl <| qf 7 0 0 rfl <| qc 8 0 rfl rfl rfl <| qd 9 (fun _ _ => op_leq rfl rfl) (fun h7 => ?_) (fun h7 => ?_)
   ·refine qa 2 ((11, B true) :: (10, B true) :: _) rfl <| qf 12 1 1 rfl <| qc 13 0 rfl rfl rfl <| qd 14 (fun _ _ => op_neq rfl rfl) (fun h8 => ?_) (fun h8 => ?_)
    ·refine qa 2 ((16, B true) :: (15, B true) :: _) rfl <| qf 17 1 1 rfl <| qc 18 0 rfl rfl rfl <| qd 19 (fun _ _ => op_geq rfl rfl) (fun h9 => ?_) (fun h9 => ?_)
     ·exact qa 2 ((21, B true) :: (20, B true) :: _) rfl <| qf 22 1 1 rfl <| qc 23 0 rfl rfl rfl <| qa 3 ((2, B _) :: (25, B _) :: (24, B _) :: _) rfl <| lb 24 rfl (by rw [dt h6, dt h7, dt h8, dt h9] <;> rfl)
     ·exact qa 7 ((2, B false) :: (25, B false) :: uz 24 3 ((21, B false) :: (20, B false) :: _)) rfl <| lb 24 rfl (by rw [dt h6, dt h7, dt h8, df h9] <;> rfl)
    ·exact qa 12 ((2, B false) :: (25, B false) :: uz 24 3 ((21, B false) :: (20, B false) :: uz 19 3 ((16, B false) :: (15, B false) :: _))) rfl <| lb 24 rfl (by rw [dt h6, dt h7, df h8] <;> rfl)
   ·exact qa 17 ((2, B false) :: (25, B false) :: uz 24 3 ((21, B false) :: (20, B false) :: uz 19 3 ((16, B false) :: (15, B false) :: uz 14 3 ((11, B false) :: (10, B false) :: _)))) rfl <| lb 24 rfl (by rw [dt h6, df h7] <;> rfl)
  ·exact qa 21 ((2, B false) :: (25, B false) :: uz 24 3 ((21, B false) :: (20, B false) :: uz 19 3 ((16, B false) :: (15, B false) :: uz 14 3 ((11, B false) :: (10, B false) :: uz 9 3 ((6, B false) :: _))))) rfl <| lb 24 rfl (by rw [df h6] <;> rfl)
 exact xm_next <| cm_ret <| xr [] ()
/-- ledger.Check -/
def m_ledger_Check (N : Nat) (p0 : ApiPosting) : Option (Int) :=
 (if ((((decide (p0.ID < 1)) || (decide (1000000 < p0.ID))) || (decide (p0.At < 0))) || (decide (3155759999 < p0.At))) = true then
  some (1)
 else
  (if 16 < (List.length p0.Lines : Int) then
   some (8)
  else
   (if (List.length p0.Lines : Int) < 2 then
    some (10)
   else
    (andThen
     (loopM (fun (a : Int × Int) =>
      (if a.2 < (List.length p0.Lines : Int) then
       ck (0 ≤ a.2 ∧ a.2 < (List.length p0.Lines : Int)) (
        Option.bind (m_ledger_line N (ix p0.Lines a.2)) fun b => (if (!b) = true then
         some (.done (.done ((1 : Int))))
        else
         ck (I64 (a.1 + ((ix p0.Lines a.2).Amount))) (
          ck (I64 (a.2 + 1)) (
           some (.next ((a.1 + ((ix p0.Lines a.2).Amount)), (a.2 + 1)))))))
      else
       some (.done (.next a.1)))) N ((0 : Int), (0 : Int)))
    fun (d : Int) =>
     (if d ≠ 0 then
      some (16)
     else
      some (0))))))
set_option maxHeartbeats 2000000 in
set_option maxRecDepth 20000 in
theorem m_ledger_Check_ok (N : Nat) (w0 : World) (p0 : ApiPosting) (b : Ad) (d e : Nat) (f : RdE w0 2 encApiLine b p0.Lines) (a : SW b d e (List.length p0.Lines)) (r : Int) (hr : m_ledger_Check N p0 = some r) :
  Ret Tryz.prog 92 [.agg #[I p0.ID, I p0.At, S b d e]] w0 VI H0 r := by
 refine calls_v (n := 49) r hr Tryz.func92 ?_
 unfold m_ledger_Check
 refine sr <| bx 1 [I _, I _, S _ _ _] rfl fun b5 => la 1 ((2, I _) :: _) rfl <| nn <| cm_seq <| cm_seq <| cm_cutE [(23, B ((((decide (p0.ID < 1)) || (decide (1000000 < p0.ID))) || (decide (p0.At < 0))) || (decide (3155759999 < p0.At))))] ?_ ?_
 ·refine qf 6 0 0 rfl <| qc 7 0 rfl rfl rfl <| qd 8 (fun _ _ => op_lss rfl rfl) (fun h6 => ?_) (fun h6 => ?_)
  ·exact qa 15 ((23, B true) :: uz 22 3 ((19, B true) :: (18, B true) :: uz 17 3 ((14, B true) :: (13, B true) :: uz 12 3 ((9, B true) :: _)))) rfl <| lb 18 rfl (by rw [dt h6] <;> rfl)
  ·refine qa 1 ((9, B false) :: _) rfl <| qf 10 0 0 rfl <| qc 11 0 rfl rfl rfl <| qd 12 (fun _ _ => op_gtr rfl rfl) (fun h7 => ?_) (fun h7 => ?_)
   ·exact qa 11 ((23, B true) :: uz 22 3 ((19, B true) :: (18, B true) :: uz 17 3 ((14, B true) :: (13, B true) :: _))) rfl <| lb 18 rfl (by rw [df h6, dt h7] <;> rfl)
   ·refine qa 2 ((14, B false) :: (13, B false) :: _) rfl <| qf 15 1 1 rfl <| qc 16 0 rfl rfl rfl <| qd 17 (fun _ _ => op_lss rfl rfl) (fun h8 => ?_) (fun h8 => ?_)
    ·exact qa 6 ((23, B true) :: uz 22 3 ((19, B true) :: (18, B true) :: _)) rfl <| lb 18 rfl (by rw [df h6, df h7, dt h8] <;> rfl)
    ·exact qa 2 ((19, B false) :: (18, B false) :: _) rfl <| qf 20 1 1 rfl <| qc 21 0 rfl rfl rfl <| qa 2 ((23, B _) :: (22, B _) :: _) rfl <| lb 18 rfl (by rw [df h6, df h7, df h8] <;> rfl)
 refine xm_next <| cB rfl (fun h9 => ?_) (fun h9 => ?_)
 ·exact sr <| la 1 ((2, I _) :: _) rfl <| nn <| cm_ret <| xm_thenR <| xr [] ()
 ·refine sk <| cm_seq <| sr <| vf 24 2 2 rfl <| vc 25 0 rfl rfl rfl <| vn 26 a rfl <| la 1 ((27, B _) :: _) rfl <| nn <| cc rfl (fun o => ?_) (fun o => ?_)
  ·exact sr <| la 1 ((2, I _) :: _) rfl <| nn <| cm_ret <| xm_thenR <| xr [] ()
  ·refine sk <| cm_seq <| sr <| vf 28 2 2 rfl <| vc 29 0 rfl rfl rfl <| vn 30 a rfl <| la 1 ((31, B _) :: _) rfl <| nn <| cc rfl (fun q => ?_) (fun q => ?_)
   ·exact sr <| la 1 ((2, I _) :: _) rfl <| nn <| cm_ret <| xm_thenR <| xr [] ()
   ·refine sk <| sr <| la 1 ((3, I _) :: _) rfl <| nn <| cm_join (σ := Int) (ξ := Unit) (fun i j => [(3, I i)]) (fun i j => []) ?_ ?_
    ·refine sr <| vf 32 2 2 rfl <| vc 33 0 rfl rfl rfl <| vn 34 a rfl <| la 1 ((35, I _) :: _) rfl <| nn <| cm_block <| cm_loop (σ := Int × Int) (ξ := Unit) (fun g l => [(3, I g.1), (33, S b d e), (34, I (List.length p0.Lines : Int)), (35, I g.2)]) (fun g l => []) () ?_ ?_ ?_
     ·exact sq
     ·exact sh []
     intro g l
     refine sr <| la 1 ((36, B _) :: _) rfl <| nn <| cm_seq <| cc rfl (fun t => ?_) (fun t => ?_)
     ·refine sk <| cm_seq <| cm_block <| sr <| lm_ck (fun m => ?_)
      refine vi 37 2 f a m rfl rfl <| vr 38 f m rfl <| al 5 [I 0, I 0] (v := .agg #[I 0, I 0]) rfl fun G => sA 0 [I _, I _] [_, _] (H' := [blkE _ _ [_, _]]) rfl rfl rfl rfl rfl rfl <| nn <| cm_seq <| sr <| vR 39 [I _, I _] 0 rfl rfl rfl <| lc 40 (fun r1 hr1 w1 c1 => m_ledger_line_ok N w1 (ix p0.Lines g.2)  r1 hr1) fun J K => la 1 ((41, B _) :: _) rfl <| nn <| cB rfl (fun x => ?_) (fun x => ?_)
      ·exact sr <| la 1 ((2, I _) :: _) rfl <| nn <| cm_ret <| xm_thenR <| xm_inR <| xm_thenR <| xm_lret <| xm_inR <| xm_lret <| xr [] ()
      ·refine sk <| cm_region <| la 1 ((42, I _) :: _) rfl <| vf 43 1 1 rfl <| vc 44 0 rfl rfl rfl <| lm_ck (fun y => ?_)
       refine va 45 y rfl rfl <| la 1 ((3, I _) :: _) rfl <| lm_nil <| xm_inN <| xm_next <| cm_region <| lm_ck (fun z => ?_)
       exact va 46 z rfl rfl <| la 1 ((35, I _) :: _) rfl <| lm_nil <| xn () []
     ·exact cm_exit <| xm_thenE <| xm_lexit <| xm_here <| xn () []
    intro i j
    refine cm_seq <| sr <| la 2 ((48, B _) :: (47, I _) :: _) rfl <| nn <| cc rfl (fun C => ?_) (fun C => ?_)
    ·exact sr <| la 1 ((2, I _) :: _) rfl <| nn <| cm_ret <| xm_thenR <| xr [] ()
    ·exact sk <| sr <| la 1 ((2, I _) :: _) rfl <| nn <| cm_ret <| xr [] ()
/-- audit.Money$1 -/
def m_audit_Money_1 (_N : Nat) (p0 : ApiPosting) (q0 : ApiPosting) : Option (Bool) :=
 some ((decide (p0.ID = q0.ID)))
set_option maxRecDepth 20000 in
theorem m_audit_Money_1_ok (N : Nat) (w0 : World) (p0 : ApiPosting) (q0 : ApiPosting) (b : Ad) (d e a : Nat) (f : Ad) (g i : Nat) (j : Blk w0 a 148 [I q0.ID, I q0.At, S f g i]) (r : Bool) (hr : m_audit_Money_1 N p0 q0 = some r) :
  Ret Tryz.prog 94 [.agg #[I p0.ID, I p0.At, S b d e], .pointer (some ⟨a, 0, none⟩)] w0 VB H0 r := by
 refine calls_v (n := 9) r hr Tryz.func94 ?_
 unfold m_audit_Money_1
 exact sr <| bx 2 [I _, I _, S _ _ _] rfl fun b5 => la 1 ((3, B false) :: _) rfl <| nn <| sr <| vf 4 0 0 rfl <| vc 5 0 rfl rfl rfl <| vf 6 0 0 rfl <| v_ 7 (fun _ c1 => oL (c1.ocell (j.at_ 0 (u := I _) rfl))) <| la 2 ((3, B _) :: (8, B _) :: _) rfl <| nn <| cm_ret <| xr [] ()
/-- slices.IndexFunc -/
def m_slices_IndexFunc_audit_Money_1 (N : Nat) (p0 : (List ApiPosting)) (p1c0 : ApiPosting) : Option (Int) :=
 (andThen
  (loopM (fun (a : Int) =>
   (if a < (List.length p0 : Int) then
    ck (0 ≤ a ∧ a < (List.length p0 : Int)) (
     Option.bind (m_audit_Money_1 N (ix p0 a) p1c0) fun b => (if b = true then
      some (.done (.done (a)))
     else
      ck (I64 (a + 1)) (
       some (.next (a + 1)))))
   else
    some (.done (.next ())))) N 0)
 fun (_s29 : Unit) =>
  some ((-1 : Int)))
set_option maxRecDepth 20000 in
theorem m_slices_IndexFunc_audit_Money_1_ok (N : Nat) (w0 : World) (p0 : (List ApiPosting)) (p1c0 : ApiPosting) (j : Ad) (m o : Nat) (a : Int → Hdr) (d : Nat) (e : Ad) (f g : Nat) (q : RdI w0 3 (fun (i : Int) (x : ApiPosting) => encApiPosting x (a i)) j p0) (t : SW j m o (List.length p0)) (v : Blk w0 d 148 [I p1c0.ID, I p1c0.At, S e f g]) (r : Int) (hr : m_slices_IndexFunc_audit_Money_1 N p0 p1c0 = some r) :
  Ret Tryz.prog 93 [S j m o, .func (.func 94) #[] #[.pointer (some ⟨d, 0, none⟩)]] w0 VI H0 r := by
 refine calls_v (n := 19) r hr Tryz.func93 ?_
 unfold m_slices_IndexFunc_audit_Money_1
 refine sr <| la 1 ((4, I _) :: _) rfl <| nn <| cm_join (σ := Unit) (ξ := Unit) (fun y z => []) (fun y z => []) ?_ ?_
 ·refine sr <| la 1 ((6, S _ _ _) :: _) rfl <| vn 7 t rfl <| la 1 ((8, I _) :: _) rfl <| nn <| cm_block <| cm_loop (σ := Int) (ξ := Unit) (fun b C => [(0, S j m o), (1, .func (.func 94) #[] #[.pointer (some ⟨d, 0, none⟩)]), (7, I (List.length p0 : Int)), (8, I b)]) (fun b C => []) () ?_ ?_ ?_
  ·exact sq
  ·exact sh []
  intro b C
  refine sr <| la 1 ((9, B _) :: _) rfl <| nn <| cm_seq <| cc rfl (fun G => ?_) (fun G => ?_)
  ·refine sk <| cm_seq <| cm_block <| sr <| la 2 ((5, I _) :: (10, I _) :: _) rfl <| nn <| sr <| la 3 ((13, I _) :: (12, S _ _ _) :: (11, .func _ _ _) :: _) rfl <| lm_ck (fun l => ?_)
   refine v_ 14 (fun _ c1 => oI 3 rfl rfl ((q.old c1).addr l.1 l.2) t.2.2 l) <| v_ 15 (fun _ c1 => oR [I ((ix p0 b).ID), I ((ix p0 b).At), S ((a b).1) ((a b).2.1) ((a b).2.2)] ((q.old c1).row l.1 l.2)) <| lm_call 16 (V := VB) (HR := H0) (by kernel_rfl) (fun w1 => op_callv rfl (by kernel_rfl)) (fun r1 hr1 w1 c1 => m_audit_Money_1_ok N w1 (ix p0 b) p1c0 ((a b).1) ((a b).2.1) ((a b).2.2) d e f g (c1.oblk v) r1 hr1) fun L M => nn <| cB rfl (fun J => ?_) (fun J => ?_)
   ·exact sr <| la 2 ((4, I _) :: (17, I _) :: _) rfl <| nn <| cm_ret <| xm_inR <| xm_thenR <| xm_lret <| xm_inR <| xm_lret <| xr [] ()
   ·refine cm_skip <| xm_inN <| xm_next <| cm_region <| lm_ck (fun K => ?_)
    exact va 18 K rfl rfl <| la 1 ((8, I _) :: _) rfl <| lm_nil <| xn () []
  ·exact cm_exit <| xm_thenE <| xm_lexit <| xm_here <| xm_lnext () sub_nil (sh [])
 intro y z
 exact sr <| la 1 ((4, I _) :: _) rfl <| nn <| cm_ret <| xr [] ()
/-- audit.Money -/
def m_audit_Money (N : Nat) (p0 : ApiBooks) : Option ((List ApiFinding) × Int) :=
 (if 512 < (List.length p0.Postings : Int) then
  some ((([] : List ApiFinding), (8 : Int)))
 else
  Option.bind (m_audit_collector N ([] : List ApiFinding)) fun r8 => (andThen
   (loopM (fun (a : (List ApiFinding) × Int) =>
    (if a.2 < (List.length p0.Postings : Int) then
     (andThen
      (ck (0 ≤ a.2 ∧ a.2 < (List.length p0.Postings : Int)) (
       (andThen
        (Option.bind (m_ledger_Check N (ix p0.Postings a.2)) fun b => (if b ≠ 0 then
         Option.bind (m_audit_collector_1 N (15 : Int) a.2 b () a.1) fun _i => some (.next (a.1 ++ ([(ApiFinding.mk (15 : Int) a.2 b)])))
        else
         some (.next a.1)))
       fun (d : (List ApiFinding)) =>
        Option.bind (m_slices_IndexFunc_audit_Money_1 N p0.Postings (ix p0.Postings a.2)) fun e => (if e < a.2 then
         Option.bind (m_audit_collector_1 N (16 : Int) a.2 e () d) fun _j => some (.next (d ++ ([(ApiFinding.mk (16 : Int) a.2 e)])))
        else
         some (.next d)))))
     fun (f : (List ApiFinding)) =>
      ck (I64 (a.2 + 1)) (
       some (.next (f, (a.2 + 1)))))
    else
     some (.done (.next a.1)))) N (r8, (0 : Int)))
  fun (g : (List ApiFinding)) =>
   some ((g, (0 : Int)))))
set_option maxHeartbeats 2000000 in
set_option maxRecDepth 20000 in
theorem m_audit_Money_ok (N : Nat) (w0 : World) (p0 : ApiBooks) (X : Ad) (Y Z : Nat) (a0 : Ad) (a1 a2 : Nat) (a3 : Ad) (a4 a5 : Nat) (a6 : Ad) (a7 a8 : Nat) (a9 : Ad) (aa ab : Nat) (ac : Ad) (ad ae : Nat) (af : Ad) (ag ah : Nat) (_bd : Int → Hdr) (ai : Ad) (aj ak : Nat) (am : Ad) (an ao : Nat) (l : Ad) (m o : Nat) (q : Ad) (t y : Nat) (z : Ad) (C G : Nat) (J : Ad) (K L : Nat) (M : Ad) (Q U : Nat) (_bc : Int → Hdr) (d : Ad) (e f : Nat) (b : Int → Hdr) (ax : RdI w0 3 (fun (i : Int) (x : ApiPosting) => encApiPosting x (b i)) d p0.Postings) (au : SW d e f (List.length p0.Postings)) (az : ∀ i : Int, 0 ≤ i ∧ i < (List.length p0.Postings : Int) → RdE w0 2 encApiLine (b i).1 (ix p0.Postings i).Lines ∧ SW (b i).1 (b i).2.1 (b i).2.2 (List.length (ix p0.Postings i).Lines)) (r : (List ApiFinding) × Int) (hr : m_audit_Money N p0 = some r) :
  Ret Tryz.prog 39 [.agg #[I p0.Now, S X Y Z, S a0 a1 a2, S a3 a4 a5, S a6 a7 a8, S a9 aa ab, I p0.Account.Gap, S ac ad ae, I p0.Inside, I p0.Bins, S af ag ah, S ai aj ak, S am an ao, S l m o, S q t y, S z C G, S J K L, S M Q U, S d e f]] w0 (fun (r : (List ApiFinding) × Int) (u : Hdr) => .tuple #[S u.1 u.2.1 u.2.2, I r.2]) (fun (r : (List ApiFinding) × Int) (u : Hdr) => [ownE 64 3 encApiFinding u.1 u.2.1 u.2.2 r.1]) r := by
 refine calls_v (n := 44) r hr Tryz.func39 ?_
 unfold m_audit_Money
 refine sr <| bx 1 [I _, S _ _ _, S _ _ _, S _ _ _, S _ _ _, S _ _ _, I _, S _ _ _, I _, I _, S _ _ _, S _ _ _, S _ _ _, S _ _ _, S _ _ _, S _ _ _, S _ _ _, S _ _ _, S _ _ _] rfl fun b5 => la 2 ((3, I _) :: (2, S _ _ _) :: _) rfl <| nn <| cm_seq <| sr <| vf 10 18 18 rfl <| vc 11 0 rfl rfl rfl <| vn 12 au rfl <| la 1 ((13, B _) :: _) rfl <| nn <| cc rfl (fun h6 => ?_) (fun h6 => ?_)
 ·exact sr <| la 2 ((3, I _) :: (2, S _ _ _) :: _) rfl <| nn <| cm_ret <| xm_thenR <| xm_nilrow 64 3 encApiFinding <| xrr [0] (none, 0, 0)
 ·refine sk <| sr <| al 4 [S none 0 0] (v := S none 0 0) rfl fun b7 => nn <| sr <| lm_nilrow 64 3 encApiFinding <| lm_callH 14 (V := (fun (_r : (List ApiFinding)) (u : Nat) => (.func (.func 58) #[] #[.pointer (some ⟨u, 0, none⟩)] : Value))) [blkE b7 43 [S none 0 0], ownE 64 3 encApiFinding none 0 0 ([] : List ApiFinding)] [blkE b5 40 [I p0.Now, S X Y Z, S a0 a1 a2, S a3 a4 a5, S a6 a7 a8, S a9 aa ab, I p0.Account.Gap, S ac ad ae, I p0.Inside, I p0.Bins, S af ag ah, S ai aj ak, S am an ao, S l m o, S q t y, S z C G, S J K L, S M Q U, S d e f]] (O := (fun (r : (List ApiFinding)) (u : Nat) => [blkE u 70 [.pointer (some ⟨b7, 0, none⟩)], blkE b7 43 [S none 0 0], ownE 64 3 encApiFinding none 0 0 r])) (sh [1, 0, 2]) (by kernel_rfl) (fun w1 => op_call (by kernel_rfl)) (fun r1 hr1 w1 c1 => m_audit_collector_ok N w0 w1 [blkE b5 40 [I p0.Now, S X Y Z, S a0 a1 a2, S a3 a4 a5, S a6 a7 a8, S a9 aa ab, I p0.Account.Gap, S ac ad ae, I p0.Inside, I p0.Bins, S af ag ah, S ai aj ak, S am an ao, S l m o, S q t y, S z C G, S J K L, S M Q U, S d e f]] ([] : List ApiFinding) b7 none 0 0  c1 r1 hr1) fun r8 u9 => la 1 ((5, .func _ _ _) :: _) rfl <| nn <| cm_join (σ := (List ApiFinding)) (ξ := Hdr) (fun b0 aq => [(4, .pointer (some ⟨b7, 0, none⟩))]) (fun b0 aq => [blkE b7 43 [S aq.1 aq.2.1 aq.2.2], ownE 64 3 encApiFinding aq.1 aq.2.1 aq.2.2 b0]) ?_ ?_
  ·refine sr <| vf 15 18 18 rfl <| vc 16 3 rfl rfl rfl <| vn 17 au rfl <| la 1 ((18, I _) :: _) rfl <| nn <| cm_block <| cm_loop (σ := (List ApiFinding) × Int) (ξ := Hdr) (fun a g => [(1, .pointer (some ⟨b5, 0, none⟩)), (4, .pointer (some ⟨b7, 0, none⟩)), (5, .func (.func 58) #[] #[.pointer (some ⟨u9, 0, none⟩)]), (16, S d e f), (17, I (List.length p0.Postings : Int)), (18, I a.2)]) (fun a g => [blkE b5 40 [I p0.Now, S X Y Z, S a0 a1 a2, S a3 a4 a5, S a6 a7 a8, S a9 aa ab, I p0.Account.Gap, S ac ad ae, I p0.Inside, I p0.Bins, S af ag ah, S ai aj ak, S am an ao, S l m o, S q t y, S z C G, S J K L, S M Q U, S d e f], blkE b7 43 [S g.1 g.2.1 g.2.2], ownE 64 3 encApiFinding g.1 g.2.1 g.2.2 a.1, blkE u9 70 [.pointer (some ⟨b7, 0, none⟩)]]) (none, 0, 0) ?_ ?_ ?_
   ·exact sq
   ·exact sh [3, 1, 2, 0]
   intro a g
   refine sr <| la 1 ((19, B _) :: _) rfl <| nn <| cm_seq <| cc rfl (fun b8 => ?_) (fun b8 => ?_)
   ·refine sk <| cm_join (σ := (List ApiFinding)) (ξ := Hdr) (fun b1 ar => [(1, .pointer (some ⟨b5, 0, none⟩)), (4, .pointer (some ⟨b7, 0, none⟩)), (5, .func (.func 58) #[] #[.pointer (some ⟨u9, 0, none⟩)]), (16, S d e f), (17, I (List.length p0.Postings : Int)), (18, I a.2)]) (fun b1 ar => [blkE b5 40 [I p0.Now, S X Y Z, S a0 a1 a2, S a3 a4 a5, S a6 a7 a8, S a9 aa ab, I p0.Account.Gap, S ac ad ae, I p0.Inside, I p0.Bins, S af ag ah, S ai aj ak, S am an ao, S l m o, S q t y, S z C G, S J K L, S M Q U, S d e f], blkE b7 43 [S ar.1 ar.2.1 ar.2.2], ownE 64 3 encApiFinding ar.1 ar.2.1 ar.2.2 b1, blkE u9 70 [.pointer (some ⟨b7, 0, none⟩)]]) ?_ ?_
    ·refine cm_block <| sr <| la 1 ((20, I _) :: _) rfl <| lm_ck (fun av => ?_)
     refine v_ 21 (fun _ c1 => oI 3 rfl rfl ((ax.old c1).addr av.1 av.2) au.2.2 av) <| v_ 22 (fun _ c1 => oR [I ((ix p0.Postings a.2).ID), I ((ix p0.Postings a.2).At), S ((b a.2).1) ((b a.2).2.1) ((b a.2).2.2)] ((ax.old c1).row av.1 av.2)) <| al 7 [I 0, I 0, S none 0 0] (v := .agg #[I 0, I 0, S none 0 0]) rfl fun aw => la 1 ((6, I _) :: _) rfl <| sA 0 [I _, I _, S _ _ _] [_, _, _] (H' := [blkE _ _ [_, _, _], _, _, _, _]) rfl rfl rfl rfl rfl rfl <| nn <| cm_join (σ := (List ApiFinding)) (ξ := Hdr) (fun ay j => [(1, .pointer (some ⟨b5, 0, none⟩)), (4, .pointer (some ⟨b7, 0, none⟩)), (5, .func (.func 58) #[] #[.pointer (some ⟨u9, 0, none⟩)]), (6, I a.2), (7, .pointer (some ⟨aw, 0, none⟩)), (16, S d e f), (17, I (List.length p0.Postings : Int)), (18, I a.2)]) (fun ay j => [blkE b5 40 [I p0.Now, S X Y Z, S a0 a1 a2, S a3 a4 a5, S a6 a7 a8, S a9 aa ab, I p0.Account.Gap, S ac ad ae, I p0.Inside, I p0.Bins, S af ag ah, S ai aj ak, S am an ao, S l m o, S q t y, S z C G, S J K L, S M Q U, S d e f], blkE b7 43 [S j.1 j.2.1 j.2.2], ownE 64 3 encApiFinding j.1 j.2.1 j.2.2 ay, blkE u9 70 [.pointer (some ⟨b7, 0, none⟩)], blkE aw 148 [I ((ix p0.Postings a.2).ID), I ((ix p0.Postings a.2).At), S ((b a.2).1) ((b a.2).2.1) ((b a.2).2.2)]]) ?_ ?_
     ·refine sr <| vR 23 [I _, I _, S _ _ _] 0 rfl rfl rfl <| lc 24 (fun r1 hr1 w1 c1 => m_ledger_Check_ok N w1 (ix p0.Postings a.2) ((b a.2).1) ((b a.2).2.1) ((b a.2).2.2) ((az a.2 av).1.old c1) (az a.2 av).2 r1 hr1) fun b4 be => la 1 ((8, I _) :: _) rfl <| nn <| sr <| la 2 ((26, B _) :: (25, I _) :: _) rfl <| nn <| cc rfl (fun b9 => ?_) (fun b9 => ?_)
      ·exact cm_region <| la 3 ((29, I _) :: (28, I _) :: (27, .func _ _ _) :: _) rfl <| lm_callH 30 (V := (fun (_r : Unit) (_u : Hdr) => (.tuple #[] : Value))) [blkE u9 70 [.pointer (some ⟨b7, 0, none⟩)], blkE b7 43 [S g.1 g.2.1 g.2.2], ownE 64 3 encApiFinding g.1 g.2.1 g.2.2 a.1] [blkE aw 148 [I ((ix p0.Postings a.2).ID), I ((ix p0.Postings a.2).At), S ((b a.2).1) ((b a.2).2.1) ((b a.2).2.2)], blkE b5 40 [I p0.Now, S X Y Z, S a0 a1 a2, S a3 a4 a5, S a6 a7 a8, S a9 aa ab, I p0.Account.Gap, S ac ad ae, I p0.Inside, I p0.Bins, S af ag ah, S ai aj ak, S am an ao, S l m o, S q t y, S z C G, S J K L, S M Q U, S d e f]] (O := (fun (_r : Unit) (u : Hdr) => [blkE u9 70 [.pointer (some ⟨b7, 0, none⟩)], blkE b7 43 [S u.1 u.2.1 u.2.2], ownE 64 3 encApiFinding u.1 u.2.1 u.2.2 (a.1 ++ ([(ApiFinding.mk (15 : Int) a.2 b4)]))])) (sh [4, 2, 3, 0, 1]) (by kernel_rfl) (fun w1 => op_callv rfl (by kernel_rfl)) (fun r1 hr1 w1 c1 => m_audit_collector_1_ok N w0 w1 [blkE aw 148 [I ((ix p0.Postings a.2).ID), I ((ix p0.Postings a.2).At), S ((b a.2).1) ((b a.2).2.1) ((b a.2).2.2)], blkE b5 40 [I p0.Now, S X Y Z, S a0 a1 a2, S a3 a4 a5, S a6 a7 a8, S a9 aa ab, I p0.Account.Gap, S ac ad ae, I p0.Inside, I p0.Bins, S af ag ah, S ai aj ak, S am an ao, S l m o, S q t y, S z C G, S J K L, S M Q U, S d e f]] (15 : Int) a.2 b4 () a.1 u9 b7 g.1 g.2.1 g.2.2  c1 r1 hr1) fun bf b2 => lm_nil <| xn (b2.1, b2.2.1, b2.2.2) [4, 1, 2, 0, 3]
      ·exact cm_skip <| xn (g.1, g.2.1, g.2.2) [1, 2, 3, 4, 0]
     intro ay j
     refine sr <| vf 31 18 18 rfl <| vc 32 0 rfl rfl rfl <| v_ 33 (fun _ _ => op_makeFuncC [.pointer (some ⟨_, _, _⟩)] rfl) <| lc 34 (fun r1 hr1 w1 c1 => m_slices_IndexFunc_audit_Money_1_ok N w1 p0.Postings (ix p0.Postings a.2) d e f b aw ((b a.2).1) ((b a.2).2.1) ((b a.2).2.2) (ax.old c1) au (c1.blk 4 rfl) r1 hr1) fun b6 bg => la 1 ((9, I _) :: _) rfl <| nn <| sr <| la 3 ((37, B _) :: (36, I _) :: (35, I _) :: _) rfl <| nn <| cc rfl (fun ba => ?_) (fun ba => ?_)
     ·exact cm_region <| la 3 ((40, I _) :: (39, I _) :: (38, .func _ _ _) :: _) rfl <| lm_callH 41 (V := (fun (_r : Unit) (_u : Hdr) => (.tuple #[] : Value))) [blkE u9 70 [.pointer (some ⟨b7, 0, none⟩)], blkE b7 43 [S j.1 j.2.1 j.2.2], ownE 64 3 encApiFinding j.1 j.2.1 j.2.2 ay] [blkE b5 40 [I p0.Now, S X Y Z, S a0 a1 a2, S a3 a4 a5, S a6 a7 a8, S a9 aa ab, I p0.Account.Gap, S ac ad ae, I p0.Inside, I p0.Bins, S af ag ah, S ai aj ak, S am an ao, S l m o, S q t y, S z C G, S J K L, S M Q U, S d e f], blkE aw 148 [I ((ix p0.Postings a.2).ID), I ((ix p0.Postings a.2).At), S ((b a.2).1) ((b a.2).2.1) ((b a.2).2.2)]] (O := (fun (_r : Unit) (u : Hdr) => [blkE u9 70 [.pointer (some ⟨b7, 0, none⟩)], blkE b7 43 [S u.1 u.2.1 u.2.2], ownE 64 3 encApiFinding u.1 u.2.1 u.2.2 (ay ++ ([(ApiFinding.mk (16 : Int) a.2 b6)]))])) (sh [3, 1, 2, 0, 4]) (by kernel_rfl) (fun w1 => op_callv rfl (by kernel_rfl)) (fun r1 hr1 w1 c1 => m_audit_collector_1_ok N w0 w1 [blkE b5 40 [I p0.Now, S X Y Z, S a0 a1 a2, S a3 a4 a5, S a6 a7 a8, S a9 aa ab, I p0.Account.Gap, S ac ad ae, I p0.Inside, I p0.Bins, S af ag ah, S ai aj ak, S am an ao, S l m o, S q t y, S z C G, S J K L, S M Q U, S d e f], blkE aw 148 [I ((ix p0.Postings a.2).ID), I ((ix p0.Postings a.2).At), S ((b a.2).1) ((b a.2).2.1) ((b a.2).2.2)]] (16 : Int) a.2 b6 () ay u9 b7 j.1 j.2.1 j.2.2  c1 r1 hr1) fun bh b3 => lm_nil <| xm_inN <| xn (b3.1, b3.2.1, b3.2.2) [3, 1, 2, 0]
     ·exact cm_skip <| xm_inN <| xn (j.1, j.2.1, j.2.2) [0, 1, 2, 3]
    intro b1 ar
    refine cm_region <| lm_ck (fun bb => ?_)
    exact va 42 bb rfl rfl <| la 1 ((18, I _) :: _) rfl <| lm_nil <| xn (ar.1, ar.2.1, ar.2.2) [0, 1, 2, 3]
   ·exact cm_exit <| xm_thenE <| xm_lexit <| xm_here <| xn (g.1, g.2.1, g.2.2) [1, 2]
  intro b0 aq
  exact sr <| vc 43 0 rfl rfl rfl <| la 2 ((3, I _) :: (2, S _ _ _) :: _) rfl <| nn <| cm_ret <| xrr [1] (aq.1, aq.2.1, aq.2.2)
end Go.Proofs.YtbnimhmoffchdaaGreatDoor
