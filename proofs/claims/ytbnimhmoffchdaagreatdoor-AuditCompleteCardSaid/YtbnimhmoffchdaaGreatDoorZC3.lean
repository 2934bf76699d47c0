/- Models of functions, and that the code follows them. Written by deco.py. -/
import Derived.Test.YtbnimhmoffchdaaGreatDoorZC2
namespace Go.Proofs.YtbnimhmoffchdaaGreatDoor
open Go.RowKit
set_option linter.unusedSectionVars false
variable [JF]

/-- recyclingref59.Fees -/
def m_recyclingref59_Fees (N : Nat) (p0 : ApiBooks) : Option ((List ApiFinding) × Int) :=
 (if ((decide (16 < (List.length p0.Costs : Int))) || (decide (512 < (List.length p0.Fees : Int)))) = true then
  some ((([] : List ApiFinding), (8 : Int)))
 else
  (andThen
   (loopM (fun (d : (List ApiFinding) × Int) =>
    (if d.2 < (List.length p0.Costs : Int) then
     (andThen
      (andThen
       (loopM (fun (a : Int × Bool × Int) =>
        (if a.2.2 < (List.length p0.Fees : Int) then
         (andThen
          (ck (0 ≤ a.2.2 ∧ a.2.2 < (List.length p0.Fees : Int)) (
           (if (ix p0.Fees a.2.2).Material ≠ d.2 then
            some (.next (a.1, a.2.1))
           else
            ck (0 ≤ a.2.2 ∧ a.2.2 < (List.length p0.Fees : Int)) (
             ck ((!(decide ((ix p0.Fees a.2.2).Amount < 0))) = true → 0 ≤ a.2.2 ∧ a.2.2 < (List.length p0.Fees : Int)) (
              (if ((decide ((ix p0.Fees a.2.2).Amount < 0)) || (decide (1000000000000 < (ix p0.Fees a.2.2).Amount))) = true then
               some (.next (a.1, false))
              else
               ck (0 ≤ a.2.2 ∧ a.2.2 < (List.length p0.Fees : Int)) (
                ck (I64 (a.1 + ((ix p0.Fees a.2.2).Amount))) (
                 some (.next ((a.1 + ((ix p0.Fees a.2.2).Amount)), a.2.1))))))))))
         fun (f : Int × Bool) =>
          ck (I64 (a.2.2 + 1)) (
           some (.next (f.1, f.2, (a.2.2 + 1)))))
        else
         some (.done (.next (a.1, a.2.1))))) N ((0 : Int), true, (0 : Int)))
      fun (e : Int × Bool) =>
       ck ((!(!e.2)) = true → 0 ≤ d.2 ∧ d.2 < (List.length p0.Costs : Int)) (
        (if ((!e.2) || (decide (e.1 ≠ (ix p0.Costs d.2)))) = true then
         ck ((List.length d.1 + List.length ([(ApiFinding.mk 9 d.2 0)])) * 24 ≤ 140737488355328) (
          some (.next (d.1 ++ ([(ApiFinding.mk 9 d.2 0)]))))
        else
         some (.next d.1))))
     fun (g : (List ApiFinding)) =>
      ck (I64 (d.2 + 1)) (
       some (.next (g, (d.2 + 1)))))
    else
     some (.done (.next d.1)))) N (([] : List ApiFinding), (0 : Int)))
  fun (l : (List ApiFinding)) =>
   (andThen
    (loopM (fun (b : (List ApiFinding) × Int) =>
     (if b.2 < (List.length p0.Fees : Int) then
      (andThen
       (ck (0 ≤ b.2 ∧ b.2 < (List.length p0.Fees : Int)) (
        ck ((!(decide ((ix p0.Fees b.2).Material < 0))) = true → 0 ≤ b.2 ∧ b.2 < (List.length p0.Fees : Int)) (
         (if ((decide ((ix p0.Fees b.2).Material < 0)) || (decide ((List.length p0.Costs : Int) ≤ (ix p0.Fees b.2).Material))) = true then
          ck (0 ≤ b.2 ∧ b.2 < (List.length p0.Fees : Int)) (
           ck ((List.length b.1 + List.length ([(ApiFinding.mk 9 ((ix p0.Fees b.2).Material) 0)])) * 24 ≤ 140737488355328) (
            some (.next (b.1 ++ ([(ApiFinding.mk 9 ((ix p0.Fees b.2).Material) 0)])))))
         else
          some (.next b.1)))))
      fun (i : (List ApiFinding)) =>
       ck (I64 (b.2 + 1)) (
        some (.next (i, (b.2 + 1)))))
     else
      some (.done (.next b.1)))) N (l, (0 : Int)))
   fun (j : (List ApiFinding)) =>
    some ((j, (0 : Int))))))
set_option maxHeartbeats 2000000 in
set_option maxRecDepth 20000 in
theorem m_recyclingref59_Fees_ok (N : Nat) (w0 : World) (p0 : ApiBooks) (a2 : Ad) (a3 a4 : Nat) (a5 : Ad) (a6 a7 : Nat) (a8 : Ad) (a9 aa : Nat) (ab : Ad) (ac ad : Nat) (ae : Ad) (af ag : Nat) (ah : Ad) (ai aj : Nat) (ak : Ad) (am an : Nat) (_c9 : Int → Hdr) (ao : Ad) (aq ar : Nat) (au : Ad) (av aw : Nat) (C : Ad) (G J : Nat) (K : Ad) (L M : Nat) (g : Ad) (l o : Nat) (i : Ad) (q t : Nat) (O : Ad) (Q U : Nat) (_c7 : Int → Hdr) (V : Ad) (X Y : Nat) (_c8 : Int → Hdr) (b8 : RdE w0 1 encI g p0.Costs) (b1 : SW g l o (List.length p0.Costs)) (b : RdE w0 3 encApiFee i p0.Fees) (e : SW i q t (List.length p0.Fees)) (r : (List ApiFinding) × Int) (hr : m_recyclingref59_Fees N p0 = some r) :
  Ret Tryz.prog 35 [.agg #[I p0.Now, S a2 a3 a4, S a5 a6 a7, S a8 a9 aa, S ab ac ad, S ae af ag, I p0.Account.Gap, S ah ai aj, I p0.Inside, I p0.Bins, S ak am an, S ao aq ar, S au av aw, S C G J, S K L M, S g l o, S i q t, S O Q U, S V X Y]] w0 (fun (r : (List ApiFinding) × Int) (u : Hdr) => .tuple #[S u.1 u.2.1 u.2.2, I r.2]) (fun (r : (List ApiFinding) × Int) (u : Hdr) => [ownE 64 3 encApiFinding u.1 u.2.1 u.2.2 r.1]) r := by
 refine calls_v (n := 120) r hr Tryz.func35 ?_
 unfold m_recyclingref59_Fees
 refine sr <| bx 1 [I _, S _ _ _, S _ _ _, S _ _ _, S _ _ _, S _ _ _, I _, S _ _ _, I _, I _, S _ _ _, S _ _ _, S _ _ _, S _ _ _, S _ _ _, S _ _ _, S _ _ _, S _ _ _, S _ _ _] rfl fun b5 => la 2 ((3, I _) :: (2, S _ _ _) :: _) rfl <| nn <| cm_seq <| cm_seq <| cm_cutE [(19, B ((decide (16 < (List.length p0.Costs : Int))) || (decide (512 < (List.length p0.Fees : Int)))))] ?_ ?_
 ·refine qf 10 15 15 rfl <| qc 11 0 rfl rfl rfl <| qn 12 b1 rfl <| qd 13 (fun _ _ => op_gtr rfl rfl) (fun h6 => ?_) (fun h6 => ?_)
  ·exact qa 6 ((19, B true) :: uz 18 4 ((14, B true) :: _)) rfl <| lb 10 rfl (by rw [dt h6] <;> rfl)
  ·exact qa 1 ((14, B false) :: _) rfl <| qf 15 16 16 rfl <| qc 16 0 rfl rfl rfl <| qn 17 e rfl <| qa 2 ((19, B _) :: (18, B _) :: _) rfl <| lb 10 rfl (by rw [df h6] <;> rfl)
 refine xm_next <| cB rfl (fun h7 => ?_) (fun h7 => ?_)
 ·exact sr <| la 2 ((3, I _) :: (2, S _ _ _) :: _) rfl <| nn <| cm_ret <| xm_thenR <| xm_nilrow 64 3 encApiFinding <| xrr [0] (none, 0, 0)
 ·refine sk <| sr <| lm_slice0 20 (el := 64) (sz := 3) (bytes := 24) (enc := encApiFinding) (by kernel_rfl) (by kernel_rfl) fun A8 n9 ca ck => la 1 ((4, S _ _ _) :: _) rfl <| nn <| cm_join (σ := (List ApiFinding)) (ξ := Hdr) (fun bh ax => [(1, .pointer (some ⟨b5, 0, none⟩)), (4, S ax.1 ax.2.1 ax.2.2)]) (fun bh ax => [blkE b5 40 [I p0.Now, S a2 a3 a4, S a5 a6 a7, S a8 a9 aa, S ab ac ad, S ae af ag, I p0.Account.Gap, S ah ai aj, I p0.Inside, I p0.Bins, S ak am an, S ao aq ar, S au av aw, S C G J, S K L M, S g l o, S i q t, S O Q U, S V X Y], ownE 64 3 encApiFinding ax.1 ax.2.1 ax.2.2 bh]) ?_ ?_
  ·refine sr <| la 1 ((5, I _) :: _) rfl <| nn <| cm_block <| cm_loop (σ := (List ApiFinding) × Int) (ξ := Hdr) (fun d a => [(1, .pointer (some ⟨b5, 0, none⟩)), (4, S a.1 a.2.1 a.2.2), (5, I d.2)]) (fun d a => [blkE b5 40 [I p0.Now, S a2 a3 a4, S a5 a6 a7, S a8 a9 aa, S ab ac ad, S ae af ag, I p0.Account.Gap, S ah ai aj, I p0.Inside, I p0.Bins, S ak am an, S ao aq ar, S au av aw, S C G J, S K L M, S g l o, S i q t, S O Q U, S V X Y], ownE 64 3 encApiFinding a.1 a.2.1 a.2.2 d.1]) (A8, n9, ca) ?_ ?_ ?_
   ·exact sq
   ·exact sh [1, 0]
   intro d a
   refine cm_seq <| sr <| la 1 ((21, I _) :: _) rfl <| vf 22 15 15 rfl <| vc 23 0 rfl rfl rfl <| vn 24 b1 rfl <| la 1 ((25, B _) :: _) rfl <| nn <| cc rfl (fun bl => ?_) (fun bl => ?_)
   ·refine sk <| cm_join (σ := (List ApiFinding)) (ξ := Hdr) (fun b9 Z => [(1, .pointer (some ⟨b5, 0, none⟩)), (4, S Z.1 Z.2.1 Z.2.2), (5, I d.2)]) (fun b9 Z => [blkE b5 40 [I p0.Now, S a2 a3 a4, S a5 a6 a7, S a8 a9 aa, S ab ac ad, S ae af ag, I p0.Account.Gap, S ah ai aj, I p0.Inside, I p0.Bins, S ak am an, S ao aq ar, S au av aw, S C G J, S K L M, S g l o, S i q t, S O Q U, S V X Y], ownE 64 3 encApiFinding Z.1 Z.2.1 Z.2.2 b9]) ?_ ?_
    ·refine cm_block <| sr <| la 2 ((7, B true) :: (6, I _) :: _) rfl <| nn <| cm_join (σ := Int × Bool) (ξ := Unit) (fun b2 bi => [(1, .pointer (some ⟨b5, 0, none⟩)), (4, S a.1 a.2.1 a.2.2), (5, I d.2), (6, I b2.1), (7, B b2.2)]) (fun b2 bi => [blkE b5 40 [I p0.Now, S a2 a3 a4, S a5 a6 a7, S a8 a9 aa, S ab ac ad, S ae af ag, I p0.Account.Gap, S ah ai aj, I p0.Inside, I p0.Bins, S ak am an, S ao aq ar, S au av aw, S C G J, S K L M, S g l o, S i q t, S O Q U, S V X Y], ownE 64 3 encApiFinding a.1 a.2.1 a.2.2 d.1]) ?_ ?_
     ·refine sr <| la 1 ((8, I _) :: _) rfl <| nn <| cm_block <| cm_loop (σ := Int × Bool × Int) (ξ := Unit) (fun x bj => [(1, .pointer (some ⟨b5, 0, none⟩)), (4, S a.1 a.2.1 a.2.2), (5, I d.2), (6, I x.1), (7, B x.2.1), (8, I x.2.2)]) (fun x bj => [blkE b5 40 [I p0.Now, S a2 a3 a4, S a5 a6 a7, S a8 a9 aa, S ab ac ad, S ae af ag, I p0.Account.Gap, S ah ai aj, I p0.Inside, I p0.Bins, S ak am an, S ao aq ar, S au av aw, S C G J, S K L M, S g l o, S i q t, S O Q U, S V X Y], ownE 64 3 encApiFinding a.1 a.2.1 a.2.2 d.1]) () ?_ ?_ ?_
      ·exact sq
      ·exact sh [0, 1]
      intro x bj
      refine cm_seq <| sr <| la 1 ((28, I _) :: _) rfl <| vf 29 16 16 rfl <| vc 30 0 rfl rfl rfl <| vn 31 e rfl <| la 1 ((32, B _) :: _) rfl <| nn <| cc rfl (fun bm => ?_) (fun bm => ?_)
      ·refine sk <| cm_join (σ := Int × Bool) (ξ := Unit) (fun b7 bk => [(1, .pointer (some ⟨b5, 0, none⟩)), (4, S a.1 a.2.1 a.2.2), (5, I d.2), (6, I b7.1), (7, B b7.2), (8, I x.2.2)]) (fun b7 bk => [blkE b5 40 [I p0.Now, S a2 a3 a4, S a5 a6 a7, S a8 a9 aa, S ab ac ad, S ae af ag, I p0.Account.Gap, S ah ai aj, I p0.Inside, I p0.Bins, S ak am an, S ao aq ar, S au av aw, S C G J, S K L M, S g l o, S i q t, S O Q U, S V X Y], ownE 64 3 encApiFinding a.1 a.2.1 a.2.2 d.1]) ?_ ?_
       ·refine cm_block <| cm_seq <| sr <| vf 35 16 16 rfl <| vc 36 0 rfl rfl rfl <| la 1 ((37, I _) :: _) rfl <| lm_ck (fun ba => ?_)
        refine vi 38 3 b e ba rfl rfl <| v_ 39 (fun _ _ => op_field (m := 1) rfl (by kernel_rfl)) <| v_ 40 (fun _ c1 => oL (v := I ((ix p0.Fees x.2.2).Material)) ((b.old c1).cell (j := 1) ba.1 ba.2 rfl)) <| la 2 ((42, B _) :: (41, I _) :: _) rfl <| nn <| cc rfl (fun bn => ?_) (fun bn => ?_)
        ·exact cm_exit <| xm_thenE <| xm_here <| xn () [0, 1]
        ·refine sk <| cm_seq <| cm_ck (fun bb => ?_)
         refine cm_ck (fun b3 => ?_)
         refine cm_cutE [(58, B ((decide ((ix p0.Fees x.2.2).Amount < 0)) || (decide (1000000000000 < (ix p0.Fees x.2.2).Amount))))] ?_ ?_
         ·refine qf 43 16 16 rfl <| qc 44 0 rfl rfl rfl <| qa 1 ((45, I _) :: _) rfl <| qi 46 3 b e bb rfl rfl <| q_ 47 (fun _ _ => op_field (m := 2) rfl (by kernel_rfl)) <| q_ 48 (fun _ c1 => oL (v := I ((ix p0.Fees x.2.2).Amount)) ((b.old c1).cell (j := 2) bb.1 bb.2 rfl)) <| qd 49 (fun _ _ => op_lss rfl rfl) (fun ay => ?_) (fun ay => ?_)
          ·exact qa 9 ((58, B true) :: uz 57 7 ((50, B true) :: _)) rfl <| lb 16 rfl (by rw [dt ay] <;> rfl)
          ·exact qa 1 ((50, B false) :: _) rfl <| qf 51 16 16 rfl <| qc 52 0 rfl rfl rfl <| qa 1 ((53, I _) :: _) rfl <| q_ 54 (fun _ c1 => oI 3 rfl rfl ((b.old c1).addr (b3 (by rw [df ay] <;> rfl)).1 (b3 (by rw [df ay] <;> rfl)).2) e.2.2 (b3 (by rw [df ay] <;> rfl))) <| q_ 55 (fun _ _ => op_field (m := 2) rfl (by kernel_rfl)) <| q_ 56 (fun _ c1 => oL (v := I ((ix p0.Fees x.2.2).Amount)) ((b.old c1).cell (j := 2) (b3 (by rw [df ay] <;> rfl)).1 (b3 (by rw [df ay] <;> rfl)).2 rfl)) <| qa 2 ((58, B _) :: (57, B _) :: _) rfl <| lb 16 rfl (by rw [df ay] <;> rfl)
         refine xm_next <| cB rfl (fun bo => ?_) (fun bo => ?_)
         ·exact cm_region <| la 1 ((7, B false) :: _) rfl <| lm_nil <| xm_inN <| xn () [0, 1]
         ·refine cm_region <| la 1 ((59, I _) :: _) rfl <| vf 60 16 16 rfl <| vc 61 0 rfl rfl rfl <| la 1 ((62, I _) :: _) rfl <| lm_ck (fun bc => ?_)
          refine vi 63 3 b e bc rfl rfl <| v_ 64 (fun _ _ => op_field (m := 2) rfl (by kernel_rfl)) <| v_ 65 (fun _ c1 => oL (v := I ((ix p0.Fees x.2.2).Amount)) ((b.old c1).cell (j := 2) bc.1 bc.2 rfl)) <| lm_ck (fun bp => ?_)
          exact va 66 bp rfl rfl <| la 1 ((6, I _) :: _) rfl <| lm_nil <| xm_inN <| xn () [0, 1]
       intro b7 bk
       refine cm_region <| la 1 ((33, I _) :: _) rfl <| lm_ck (fun bq => ?_)
       exact va 34 bq rfl rfl <| la 1 ((8, I _) :: _) rfl <| lm_nil <| xn () [0, 1]
      ·exact cm_exit <| xm_thenE <| xm_lexit <| xm_here <| xn () [0, 1]
     intro b2 bi
     refine cm_seq <| cm_ck (fun b4 => ?_)
     refine cm_cutE [(77, B ((!b2.2) || (decide (b2.1 ≠ (ix p0.Costs d.2)))))] ?_ ?_
     ·refine wq_bool 67 (by kernel_rfl) (fun w1 c1 => (op_move (v := B _) rfl)) (fun az => ?_) (fun az => ?_)
      ·exact qa 3 ((70, I _) :: (69, B false) :: (68, B false) :: _) rfl <| qf 71 15 15 rfl <| qc 72 0 rfl rfl rfl <| qa 1 ((73, I _) :: _) rfl <| q_ 74 (fun _ c1 => oI 1 rfl rfl ((b8.old c1).addr (b4 (by rw [az] <;> rfl)).1 (b4 (by rw [az] <;> rfl)).2) b1.2.2 (b4 (by rw [az] <;> rfl))) <| q_ 75 (fun _ c1 => oL (v := I (ix p0.Costs d.2)) ((b8.old c1).cell0 (b4 (by rw [az] <;> rfl)).1 (b4 (by rw [az] <;> rfl)).2 rfl)) <| qa 2 ((77, B _) :: (76, B _) :: _) rfl <| lb 11 rfl (by rw [az] <;> rfl)
      ·exact qa 10 ((77, B true) :: uz 76 7 ((69, B true) :: (68, B true) :: _)) rfl <| lb 11 rfl (by rw [az] <;> rfl)
     refine xm_next <| cB rfl (fun br => ?_) (fun br => ?_)
     ·refine cm_region <| la 2 ((79, I _) :: (78, S _ _ _) :: _) rfl <| v_ 80 (fun _ _ => op_build (z := [I 0, I 0, I 0]) (tab := [(0, 1), (1, 1), (2, 1)]) (cs := [I _, I _, I _]) [(0, [I _]), (1, [I _])] (by kernel_rfl) (by kernel_rfl) (fillOk_cons rfl rfl rfl (fillOk_cons rfl rfl rfl fillOk_nil)) rfl) <| lm_slice1 81 (el := 64) (sz := 3) (bytes := 24) (enc := encApiFinding) (ApiFinding.mk 9 d.2 0) (by kernel_rfl) (by kernel_rfl) encApiFinding_len rfl (by kernel_rfl) fun cb cd ce cf => lm_ck (fun bs => ?_)
      exact ap 82 2 (el := 64) (sz := 3) (bytes := 24) (enc := encApiFinding) (l2 := ([(ApiFinding.mk 9 d.2 0)])) encApiFinding_len encApiFinding_one rfl rfl rfl (fun w1 c1 => (c1.ownZ 0 rfl)) (fun w1 c1 => (c1.own 0 rfl encApiFinding_len)) bs fun bt bu bv => la 1 ((4, S _ _ _) :: _) rfl <| lm_nil <| xm_inN <| xn (bt, bu, bv) [1, 2]
     ·exact cm_skip <| xm_inN <| xn (a.1, a.2.1, a.2.2) [0, 1]
    intro b9 Z
    refine cm_region <| la 1 ((26, I _) :: _) rfl <| lm_ck (fun bw => ?_)
    exact va 27 bw rfl rfl <| la 1 ((5, I _) :: _) rfl <| lm_nil <| xn (Z.1, Z.2.1, Z.2.2) [0, 1]
   ·exact cm_exit <| xm_thenE <| xm_lexit <| xm_here <| xn (a.1, a.2.1, a.2.2) [0, 1]
  intro bh ax
  refine cm_join (σ := (List ApiFinding)) (ξ := Hdr) (fun bd a0 => [(4, S a0.1 a0.2.1 a0.2.2)]) (fun bd a0 => [ownE 64 3 encApiFinding a0.1 a0.2.1 a0.2.2 bd]) ?_ ?_
  ·refine sr <| la 1 ((9, I _) :: _) rfl <| nn <| cm_block <| cm_loop (σ := (List ApiFinding) × Int) (ξ := Hdr) (fun y f => [(1, .pointer (some ⟨b5, 0, none⟩)), (4, S f.1 f.2.1 f.2.2), (9, I y.2)]) (fun y f => [blkE b5 40 [I p0.Now, S a2 a3 a4, S a5 a6 a7, S a8 a9 aa, S ab ac ad, S ae af ag, I p0.Account.Gap, S ah ai aj, I p0.Inside, I p0.Bins, S ak am an, S ao aq ar, S au av aw, S C G J, S K L M, S g l o, S i q t, S O Q U, S V X Y], ownE 64 3 encApiFinding f.1 f.2.1 f.2.2 y.1]) (ax.1, ax.2.1, ax.2.2) ?_ ?_ ?_
   ·exact sq
   ·exact sh [0, 1]
   intro y f
   refine cm_seq <| sr <| la 1 ((83, I _) :: _) rfl <| vf 84 16 16 rfl <| vc 85 0 rfl rfl rfl <| vn 86 e rfl <| la 1 ((87, B _) :: _) rfl <| nn <| cc rfl (fun bz => ?_) (fun bz => ?_)
   ·refine sk <| cm_join (σ := (List ApiFinding)) (ξ := Hdr) (fun be a1 => [(1, .pointer (some ⟨b5, 0, none⟩)), (4, S a1.1 a1.2.1 a1.2.2), (9, I y.2)]) (fun be a1 => [blkE b5 40 [I p0.Now, S a2 a3 a4, S a5 a6 a7, S a8 a9 aa, S ab ac ad, S ae af ag, I p0.Account.Gap, S ah ai aj, I p0.Inside, I p0.Bins, S ak am an, S ao aq ar, S au av aw, S C G J, S K L M, S g l o, S i q t, S O Q U, S V X Y], ownE 64 3 encApiFinding a1.1 a1.2.1 a1.2.2 be]) ?_ ?_
    ·refine cm_block <| cm_seq <| cm_ck (fun bf => ?_)
     refine cm_ck (fun b6 => ?_)
     refine cm_drawn [(108, B ((decide ((ix p0.Fees y.2).Material < 0)) || (decide ((List.length p0.Costs : Int) ≤ (ix p0.Fees y.2).Material))))] (by kernel_rfl) (by kernel_rfl) ?_ ?_
     ·refine qf 90 16 16 rfl <| qc 91 0 rfl rfl rfl <| qa 1 ((92, I _) :: _) rfl <| qi 93 3 b e bf rfl rfl <| q_ 94 (fun _ _ => op_field (m := 1) rfl (by kernel_rfl)) <| q_ 95 (fun _ c1 => oL (v := I ((ix p0.Fees y.2).Material)) ((b.old c1).cell (j := 1) bf.1 bf.2 rfl)) <| qd 96 (fun _ _ => op_lss rfl rfl) (fun b0 => ?_) (fun b0 => ?_)
      ·exact qa 12 ((108, B true) :: uz 107 10 ((97, B true) :: _)) rfl <| lb 19 rfl (by rw [dt b0] <;> rfl)
      ·exact qa 1 ((97, B false) :: _) rfl <| qf 98 16 16 rfl <| qc 99 0 rfl rfl rfl <| qa 1 ((100, I _) :: _) rfl <| q_ 101 (fun _ c1 => oI 3 rfl rfl ((b.old c1).addr (b6 (by rw [df b0] <;> rfl)).1 (b6 (by rw [df b0] <;> rfl)).2) e.2.2 (b6 (by rw [df b0] <;> rfl))) <| q_ 102 (fun _ _ => op_field (m := 1) rfl (by kernel_rfl)) <| q_ 103 (fun _ c1 => oL (v := I ((ix p0.Fees y.2).Material)) ((b.old c1).cell (j := 1) (b6 (by rw [df b0] <;> rfl)).1 (b6 (by rw [df b0] <;> rfl)).2 rfl)) <| qf 104 15 15 rfl <| qc 105 0 rfl rfl rfl <| qn 106 b1 rfl <| qa 2 ((108, B _) :: (107, B _) :: _) rfl <| lb 19 rfl (by rw [df b0] <;> rfl)
     refine xm_next <| cB rfl (fun c0 => ?_) (fun c0 => ?_)
     ·refine cm_region <| la 1 ((109, S _ _ _) :: _) rfl <| vf 110 16 16 rfl <| vc 111 0 rfl rfl rfl <| la 1 ((112, I _) :: _) rfl <| lm_ck (fun bg => ?_)
      refine vi 113 3 b e bg rfl rfl <| v_ 114 (fun _ _ => op_field (m := 1) rfl (by kernel_rfl)) <| v_ 115 (fun _ c1 => oL (v := I ((ix p0.Fees y.2).Material)) ((b.old c1).cell (j := 1) bg.1 bg.2 rfl)) <| v_ 116 (fun _ _ => op_build (z := [I 0, I 0, I 0]) (tab := [(0, 1), (1, 1), (2, 1)]) (cs := [I _, I _, I _]) [(0, [I _]), (1, [I _])] (by kernel_rfl) (by kernel_rfl) (fillOk_cons rfl rfl rfl (fillOk_cons rfl rfl rfl fillOk_nil)) rfl) <| lm_slice1 117 (el := 64) (sz := 3) (bytes := 24) (enc := encApiFinding) (ApiFinding.mk 9 ((ix p0.Fees y.2).Material) 0) (by kernel_rfl) (by kernel_rfl) encApiFinding_len rfl (by kernel_rfl) fun cg ch ci cj => lm_ck (fun c2 => ?_)
      exact ap 118 2 (el := 64) (sz := 3) (bytes := 24) (enc := encApiFinding) (l2 := ([(ApiFinding.mk 9 ((ix p0.Fees y.2).Material) 0)])) encApiFinding_len encApiFinding_one rfl rfl rfl (fun w1 c1 => (c1.ownZ 0 rfl)) (fun w1 c1 => (c1.own 0 rfl encApiFinding_len)) c2 fun c3 c4 c5 => la 1 ((4, S _ _ _) :: _) rfl <| lm_nil <| xm_inN <| xn (c3, c4, c5) [1, 2]
     ·exact cm_skip <| xm_inN <| xn (f.1, f.2.1, f.2.2) [0, 1]
    intro be a1
    refine cm_region <| la 1 ((88, I _) :: _) rfl <| lm_ck (fun c6 => ?_)
    exact va 89 c6 rfl rfl <| la 1 ((9, I _) :: _) rfl <| lm_nil <| xn (a1.1, a1.2.1, a1.2.2) [0, 1]
   ·exact cm_exit <| xm_thenE <| xm_lexit <| xm_here <| xn (f.1, f.2.1, f.2.2) [1]
  intro bd a0
  exact sr <| la 3 ((3, I _) :: (2, S _ _ _) :: (119, S _ _ _) :: _) rfl <| nn <| cm_ret <| xrr [0] (a0.1, a0.2.1, a0.2.2)
/-- recyclingref48.Check -/
def m_recyclingref48_Check (N : Nat) (p0 : ApiPosting) : Option (Int) :=
 (if ((((decide (p0.ID < 1)) || (decide (1000000 < p0.ID))) || (decide (p0.At < 0))) || (decide (3155759999 < p0.At))) = true then
  some (1)
 else
  (if 16 < (List.length p0.Lines : Int) then
   some (8)
  else
   (if (List.length p0.Lines : Int) < 2 then
    some (10)
   else
    (andThen
     (loopM (fun (b : Int) =>
      (if b < (List.length p0.Lines : Int) then
       ck (0 ≤ b ∧ b < (List.length p0.Lines : Int)) (
        (if (((((decide ((ix p0.Lines b).Account < 0)) || (decide (1000000 < (ix p0.Lines b).Account))) || (decide ((ix p0.Lines b).Amount = 0))) || (decide ((ix p0.Lines b).Amount < -1000000000000))) || (decide (1000000000000 < (ix p0.Lines b).Amount))) = true then
         some (.done (.done ((1 : Int))))
        else
         ck (I64 (b + 1)) (
          some (.next (b + 1)))))
      else
       some (.done (.next ())))) N 0)
    fun (_s45 : Unit) =>
     (andThen
      (loopM (fun (a : Int × Int) =>
       (if a.2 < (List.length p0.Lines : Int) then
        ck (0 ≤ a.2 ∧ a.2 < (List.length p0.Lines : Int)) (
         ck (I64 (a.1 + ((ix p0.Lines a.2).Amount))) (
          ck (I64 (a.2 + 1)) (
           some (.next ((a.1 + ((ix p0.Lines a.2).Amount)), (a.2 + 1))))))
       else
        some (.done (.next a.1)))) N ((0 : Int), (0 : Int)))
     fun (d : Int) =>
      (if d ≠ 0 then
       some (16)
      else
       some (0)))))))
set_option maxHeartbeats 2000000 in
set_option maxRecDepth 20000 in
theorem m_recyclingref48_Check_ok (N : Nat) (w0 : World) (p0 : ApiPosting) (b : Ad) (d e : Nat) (f : RdE w0 2 encApiLine b p0.Lines) (a : SW b d e (List.length p0.Lines)) (r : Int) (hr : m_recyclingref48_Check N p0 = some r) :
  Ret Tryz.prog 87 [.agg #[I p0.ID, I p0.At, S b d e]] w0 VI H0 r := by
 refine calls_v (n := 85) r hr Tryz.func87 ?_
 unfold m_recyclingref48_Check
 refine sr <| bx 1 [I _, I _, S _ _ _] rfl fun b5 => la 1 ((2, I _) :: _) rfl <| nn <| cm_seq <| cm_seq <| cm_cutE [(24, B ((((decide (p0.ID < 1)) || (decide (1000000 < p0.ID))) || (decide (p0.At < 0))) || (decide (3155759999 < p0.At))))] ?_ ?_
 ·refine qf 7 0 0 rfl <| qc 8 0 rfl rfl rfl <| qd 9 (fun _ _ => op_lss rfl rfl) (fun h6 => ?_) (fun h6 => ?_)
  ·exact qa 15 ((24, B true) :: uz 23 3 ((20, B true) :: (19, B true) :: uz 18 3 ((15, B true) :: (14, B true) :: uz 13 3 ((10, B true) :: _)))) rfl <| lb 18 rfl (by rw [dt h6] <;> rfl)
  ·refine qa 1 ((10, B false) :: _) rfl <| qf 11 0 0 rfl <| qc 12 0 rfl rfl rfl <| qd 13 (fun _ _ => op_gtr rfl rfl) (fun h7 => ?_) (fun h7 => ?_)
   ·exact qa 11 ((24, B true) :: uz 23 3 ((20, B true) :: (19, B true) :: uz 18 3 ((15, B true) :: (14, B true) :: _))) rfl <| lb 18 rfl (by rw [df h6, dt h7] <;> rfl)
   ·refine qa 2 ((15, B false) :: (14, B false) :: _) rfl <| qf 16 1 1 rfl <| qc 17 0 rfl rfl rfl <| qd 18 (fun _ _ => op_lss rfl rfl) (fun h8 => ?_) (fun h8 => ?_)
    ·exact qa 6 ((24, B true) :: uz 23 3 ((20, B true) :: (19, B true) :: _)) rfl <| lb 18 rfl (by rw [df h6, df h7, dt h8] <;> rfl)
    ·exact qa 2 ((20, B false) :: (19, B false) :: _) rfl <| qf 21 1 1 rfl <| qc 22 0 rfl rfl rfl <| qa 2 ((24, B _) :: (23, B _) :: _) rfl <| lb 18 rfl (by rw [df h6, df h7, df h8] <;> rfl)
 refine xm_next <| cB rfl (fun h9 => ?_) (fun h9 => ?_)
 ·exact sr <| la 1 ((2, I _) :: _) rfl <| nn <| cm_ret <| xm_thenR <| xr [] ()
 ·refine sk <| cm_seq <| sr <| vf 25 2 2 rfl <| vc 26 0 rfl rfl rfl <| vn 27 a rfl <| la 1 ((28, B _) :: _) rfl <| nn <| cc rfl (fun V => ?_) (fun V => ?_)
  ·exact sr <| la 1 ((2, I _) :: _) rfl <| nn <| cm_ret <| xm_thenR <| xr [] ()
  ·refine sk <| cm_seq <| sr <| vf 29 2 2 rfl <| vc 30 0 rfl rfl rfl <| vn 31 a rfl <| la 1 ((32, B _) :: _) rfl <| nn <| cc rfl (fun X => ?_) (fun X => ?_)
   ·exact sr <| la 1 ((2, I _) :: _) rfl <| nn <| cm_ret <| xm_thenR <| xr [] ()
   ·refine sk <| cm_join (σ := Unit) (ξ := Unit) (fun C G => [(1, .pointer (some ⟨b5, 0, none⟩))]) (fun C G => [blkE b5 148 [I p0.ID, I p0.At, S b d e]]) ?_ ?_
    ·refine sr <| la 1 ((3, I _) :: _) rfl <| nn <| cm_block <| cm_loop (σ := Int) (ξ := Unit) (fun g J => [(1, .pointer (some ⟨b5, 0, none⟩)), (3, I g)]) (fun g J => [blkE b5 148 [I p0.ID, I p0.At, S b d e]]) () ?_ ?_ ?_
     ·exact sq
     ·exact sh [0]
     intro g J
     refine cm_seq <| sr <| la 1 ((33, I _) :: _) rfl <| vf 34 2 2 rfl <| vc 35 0 rfl rfl rfl <| vn 36 a rfl <| la 1 ((37, B _) :: _) rfl <| nn <| cc rfl (fun Y => ?_) (fun Y => ?_)
     ·refine sk <| cm_seq <| cm_block <| sr <| vf 40 2 2 rfl <| vc 41 0 rfl rfl rfl <| la 1 ((42, I _) :: _) rfl <| lm_ck (fun K => ?_)
      refine vi 43 2 f a K rfl rfl <| vr 44 f K rfl <| al 4 [I 0, I 0] (v := .agg #[I 0, I 0]) rfl fun a1 => sA 0 [I _, I _] [_, _] (H' := [blkE _ _ [_, _], _]) rfl rfl rfl rfl rfl rfl <| nn <| cm_seq <| cm_cutE [(67, B (((((decide ((ix p0.Lines g).Account < 0)) || (decide (1000000 < (ix p0.Lines g).Account))) || (decide ((ix p0.Lines g).Amount = 0))) || (decide ((ix p0.Lines g).Amount < -1000000000000))) || (decide (1000000000000 < (ix p0.Lines g).Amount))))] ?_ ?_
      ·refine qf 45 0 0 rfl <| qc 46 0 rfl rfl rfl <| qd 47 (fun _ _ => op_lss rfl rfl) (fun l => ?_) (fun l => ?_)
       ·exact qa 20 ((67, B true) :: uz 66 3 ((63, B true) :: (62, B true) :: uz 61 3 ((58, B true) :: (57, B true) :: uz 56 3 ((53, B true) :: (52, B true) :: uz 51 3 ((48, B true) :: _))))) rfl <| lb 23 rfl (by rw [dt l] <;> rfl)
       ·refine qa 1 ((48, B false) :: _) rfl <| qf 49 0 0 rfl <| qc 50 0 rfl rfl rfl <| qd 51 (fun _ _ => op_gtr rfl rfl) (fun o => ?_) (fun o => ?_)
        ·exact qa 16 ((67, B true) :: uz 66 3 ((63, B true) :: (62, B true) :: uz 61 3 ((58, B true) :: (57, B true) :: uz 56 3 ((53, B true) :: (52, B true) :: _)))) rfl <| lb 23 rfl (by rw [df l, dt o] <;> rfl)
        ·refine qa 2 ((53, B false) :: (52, B false) :: _) rfl <| qf 54 1 1 rfl <| qc 55 0 rfl rfl rfl <| qd 56 (fun _ _ => op_eql rfl rfl) (fun t => ?_) (fun t => ?_)
         ·exact qa 11 ((67, B true) :: uz 66 3 ((63, B true) :: (62, B true) :: uz 61 3 ((58, B true) :: (57, B true) :: _))) rfl <| lb 23 rfl (by rw [df l, df o, dt t] <;> rfl)
         ·refine qa 2 ((58, B false) :: (57, B false) :: _) rfl <| qf 59 1 1 rfl <| qc 60 0 rfl rfl rfl <| qd 61 (fun _ _ => op_lss rfl rfl) (fun x => ?_) (fun x => ?_)
          ·exact qa 6 ((67, B true) :: uz 66 3 ((63, B true) :: (62, B true) :: _)) rfl <| lb 23 rfl (by rw [df l, df o, df t, dt x] <;> rfl)
          ·exact qa 2 ((63, B false) :: (62, B false) :: _) rfl <| qf 64 1 1 rfl <| qc 65 0 rfl rfl rfl <| qa 2 ((67, B _) :: (66, B _) :: _) rfl <| lb 23 rfl (by rw [df l, df o, df t, df x] <;> rfl)
      refine xm_next <| cB rfl (fun Z => ?_) (fun Z => ?_)
      ·exact sr <| la 1 ((2, I _) :: _) rfl <| nn <| cm_ret <| xm_inR <| xm_thenR <| xm_lret <| xm_inR <| xm_lret <| xr [] ()
      ·refine cm_skip <| xm_inN <| xm_next <| cm_region <| la 1 ((38, I _) :: _) rfl <| lm_ck (fun a0 => ?_)
       exact va 39 a0 rfl rfl <| la 1 ((3, I _) :: _) rfl <| lm_nil <| xn () [1]
     ·exact cm_exit <| xm_thenE <| xm_lexit <| xm_here <| xn () [0]
    intro C G
    refine sr <| la 1 ((5, I _) :: _) rfl <| nn <| cm_join (σ := Int) (ξ := Unit) (fun y L => [(5, I y)]) (fun y L => []) ?_ ?_
    ·refine sr <| la 1 ((6, I _) :: _) rfl <| nn <| cm_block <| cm_loop (σ := Int × Int) (ξ := Unit) (fun i z => [(1, .pointer (some ⟨b5, 0, none⟩)), (5, I i.1), (6, I i.2)]) (fun i z => [blkE b5 148 [I p0.ID, I p0.At, S b d e]]) () ?_ ?_ ?_
     ·exact sq
     ·exact sh [0]
     intro i z
     refine cm_seq <| sr <| la 1 ((68, I _) :: _) rfl <| vf 69 2 2 rfl <| vc 70 0 rfl rfl rfl <| vn 71 a rfl <| la 1 ((72, B _) :: _) rfl <| nn <| cc rfl (fun M => ?_) (fun M => ?_)
     ·refine sk <| cm_seq <| cm_block <| cm_region <| la 1 ((75, I _) :: _) rfl <| vf 76 2 2 rfl <| vc 77 0 rfl rfl rfl <| la 1 ((78, I _) :: _) rfl <| lm_ck (fun q => ?_)
      refine vi 79 2 f a q rfl rfl <| v_ 80 (fun _ _ => op_field (m := 1) rfl (by kernel_rfl)) <| v_ 81 (fun _ c1 => oL (v := I ((ix p0.Lines i.2).Amount)) ((f.old c1).cell (j := 1) q.1 q.2 rfl)) <| lm_ck (fun O => ?_)
      refine va 82 O rfl rfl <| la 1 ((5, I _) :: _) rfl <| lm_nil <| xm_inN <| xm_next <| cm_region <| la 1 ((73, I _) :: _) rfl <| lm_ck (fun Q => ?_)
      exact va 74 Q rfl rfl <| la 1 ((6, I _) :: _) rfl <| lm_nil <| xn () [0]
     ·exact cm_exit <| xm_thenE <| xm_lexit <| xm_here <| xn () []
    intro y L
    refine cm_seq <| sr <| la 2 ((84, B _) :: (83, I _) :: _) rfl <| nn <| cc rfl (fun U => ?_) (fun U => ?_)
    ·exact sr <| la 1 ((2, I _) :: _) rfl <| nn <| cm_ret <| xm_thenR <| xr [] ()
    ·exact sk <| sr <| la 1 ((2, I _) :: _) rfl <| nn <| cm_ret <| xr [] ()
/-- recyclingref59.Money -/
def m_recyclingref59_Money (N : Nat) (p0 : ApiBooks) : Option ((List ApiFinding) × Int) :=
 (if 512 < (List.length p0.Postings : Int) then
  some ((([] : List ApiFinding), (8 : Int)))
 else
  (andThen
   (loopM (fun (a : (List ApiFinding) × Int) =>
    (if a.2 < (List.length p0.Postings : Int) then
     (andThen
      (ck (0 ≤ a.2 ∧ a.2 < (List.length p0.Postings : Int)) (
       Option.bind (m_recyclingref48_Check N (ix p0.Postings a.2)) fun d => (andThen
        (if d ≠ 0 then
         ck ((List.length a.1 + List.length ([(ApiFinding.mk 15 a.2 d)])) * 24 ≤ 140737488355328) (
          some (.next (a.1 ++ ([(ApiFinding.mk 15 a.2 d)]))))
        else
         some (.next a.1))
       fun (e : (List ApiFinding)) =>
        (loopM (fun (b : Int) =>
         (if b < a.2 then
          ck (0 ≤ b ∧ b < (List.length p0.Postings : Int)) (
           ck (0 ≤ a.2 ∧ a.2 < (List.length p0.Postings : Int)) (
            (if (ix p0.Postings b).ID = (ix p0.Postings a.2).ID then
             ck ((List.length e + List.length ([(ApiFinding.mk 16 a.2 b)])) * 24 ≤ 140737488355328) (
              some (.done (.next (e ++ ([(ApiFinding.mk 16 a.2 b)])))))
            else
             ck (I64 (b + 1)) (
              some (.next (b + 1))))))
         else
          some (.done (.next e)))) N 0))))
     fun (f : (List ApiFinding)) =>
      ck (I64 (a.2 + 1)) (
       some (.next (f, (a.2 + 1)))))
    else
     some (.done (.next a.1)))) N (([] : List ApiFinding), (0 : Int)))
  fun (g : (List ApiFinding)) =>
   some ((g, (0 : Int)))))
set_option maxHeartbeats 2000000 in
set_option maxRecDepth 20000 in
theorem m_recyclingref59_Money_ok (N : Nat) (w0 : World) (p0 : ApiBooks) (a2 : Ad) (a3 a4 : Nat) (a5 : Ad) (a6 a7 : Nat) (a8 : Ad) (a9 aa : Nat) (ab : Ad) (ac ad : Nat) (ae : Ad) (af ag : Nat) (ah : Ad) (ai aj : Nat) (ak : Ad) (am an : Nat) (_bl : Int → Hdr) (ao : Ad) (aq ar : Nat) (au : Ad) (av aw : Nat) (t : Ad) (y C : Nat) (G : Ad) (J K : Nat) (L : Ad) (M O : Nat) (Q : Ad) (U V : Nat) (X : Ad) (Y Z : Nat) (_bk : Int → Hdr) (g : Ad) (m o : Nat) (b : Int → Hdr) (f : RdI w0 3 (fun (i : Int) (x : ApiPosting) => encApiPosting x (b i)) g p0.Postings) (q : SW g m o (List.length p0.Postings)) (ax : ∀ i : Int, 0 ≤ i ∧ i < (List.length p0.Postings : Int) → RdE w0 2 encApiLine (b i).1 (ix p0.Postings i).Lines ∧ SW (b i).1 (b i).2.1 (b i).2.2 (List.length (ix p0.Postings i).Lines)) (r : (List ApiFinding) × Int) (hr : m_recyclingref59_Money N p0 = some r) :
  Ret Tryz.prog 36 [.agg #[I p0.Now, S a2 a3 a4, S a5 a6 a7, S a8 a9 aa, S ab ac ad, S ae af ag, I p0.Account.Gap, S ah ai aj, I p0.Inside, I p0.Bins, S ak am an, S ao aq ar, S au av aw, S t y C, S G J K, S L M O, S Q U V, S X Y Z, S g m o]] w0 (fun (r : (List ApiFinding) × Int) (u : Hdr) => .tuple #[S u.1 u.2.1 u.2.2, I r.2]) (fun (r : (List ApiFinding) × Int) (u : Hdr) => [ownE 64 3 encApiFinding u.1 u.2.1 u.2.2 r.1]) r := by
 refine calls_v (n := 59) r hr Tryz.func36 ?_
 unfold m_recyclingref59_Money
 refine sr <| bx 1 [I _, S _ _ _, S _ _ _, S _ _ _, S _ _ _, S _ _ _, I _, S _ _ _, I _, I _, S _ _ _, S _ _ _, S _ _ _, S _ _ _, S _ _ _, S _ _ _, S _ _ _, S _ _ _, S _ _ _] rfl fun b5 => la 2 ((3, I _) :: (2, S _ _ _) :: _) rfl <| nn <| cm_seq <| sr <| vf 8 18 18 rfl <| vc 9 0 rfl rfl rfl <| vn 10 q rfl <| la 1 ((11, B _) :: _) rfl <| nn <| cc rfl (fun h6 => ?_) (fun h6 => ?_)
 ·exact sr <| la 2 ((3, I _) :: (2, S _ _ _) :: _) rfl <| nn <| cm_ret <| xm_thenR <| xm_nilrow 64 3 encApiFinding <| xrr [0] (none, 0, 0)
 ·refine sk <| sr <| lm_slice0 12 (el := 64) (sz := 3) (bytes := 24) (enc := encApiFinding) (by kernel_rfl) (by kernel_rfl) fun A7 n8 k9 bv => la 1 ((4, S _ _ _) :: _) rfl <| nn <| cm_join (σ := (List ApiFinding)) (ξ := Hdr) (fun b1 j => [(4, S j.1 j.2.1 j.2.2)]) (fun b1 j => [ownE 64 3 encApiFinding j.1 j.2.1 j.2.2 b1]) ?_ ?_
  ·refine sr <| la 1 ((5, I _) :: _) rfl <| nn <| cm_block <| cm_loop (σ := (List ApiFinding) × Int) (ξ := Hdr) (fun a e => [(1, .pointer (some ⟨b5, 0, none⟩)), (4, S e.1 e.2.1 e.2.2), (5, I a.2)]) (fun a e => [blkE b5 40 [I p0.Now, S a2 a3 a4, S a5 a6 a7, S a8 a9 aa, S ab ac ad, S ae af ag, I p0.Account.Gap, S ah ai aj, I p0.Inside, I p0.Bins, S ak am an, S ao aq ar, S au av aw, S t y C, S G J K, S L M O, S Q U V, S X Y Z, S g m o], ownE 64 3 encApiFinding e.1 e.2.1 e.2.2 a.1]) (A7, n8, k9) ?_ ?_ ?_
   ·exact sq
   ·exact sh [1, 0]
   intro a e
   refine cm_seq <| sr <| la 1 ((13, I _) :: _) rfl <| vf 14 18 18 rfl <| vc 15 0 rfl rfl rfl <| vn 16 q rfl <| la 1 ((17, B _) :: _) rfl <| nn <| cc rfl (fun b6 => ?_) (fun b6 => ?_)
   ·refine sk <| cm_join (σ := (List ApiFinding)) (ξ := Hdr) (fun b2 l => [(1, .pointer (some ⟨b5, 0, none⟩)), (4, S l.1 l.2.1 l.2.2), (5, I a.2)]) (fun b2 l => [blkE b5 40 [I p0.Now, S a2 a3 a4, S a5 a6 a7, S a8 a9 aa, S ab ac ad, S ae af ag, I p0.Account.Gap, S ah ai aj, I p0.Inside, I p0.Bins, S ak am an, S ao aq ar, S au av aw, S t y C, S G J K, S L M O, S Q U V, S X Y Z, S g m o], ownE 64 3 encApiFinding l.1 l.2.1 l.2.2 b2]) ?_ ?_
    ·refine cm_block <| sr <| vf 20 18 18 rfl <| vc 21 0 rfl rfl rfl <| la 1 ((22, I _) :: _) rfl <| lm_ck (fun a0 => ?_)
     refine v_ 23 (fun _ c1 => oI 3 rfl rfl ((f.old c1).addr a0.1 a0.2) q.2.2 a0) <| v_ 24 (fun _ c1 => oR [I ((ix p0.Postings a.2).ID), I ((ix p0.Postings a.2).At), S ((b a.2).1) ((b a.2).2.1) ((b a.2).2.2)] ((f.old c1).row a0.1 a0.2)) <| lc 25 (fun r1 hr1 w1 c1 => m_recyclingref48_Check_ok N w1 (ix p0.Postings a.2) ((b a.2).1) ((b a.2).2.1) ((b a.2).2.2) ((ax a.2 a0).1.old c1) (ax a.2 a0).2 r1 hr1) fun b3 bm => la 1 ((6, I _) :: _) rfl <| nn <| cm_join (σ := (List ApiFinding)) (ξ := Hdr) (fun b0 d => [(1, .pointer (some ⟨b5, 0, none⟩)), (4, S d.1 d.2.1 d.2.2), (5, I a.2)]) (fun b0 d => [blkE b5 40 [I p0.Now, S a2 a3 a4, S a5 a6 a7, S a8 a9 aa, S ab ac ad, S ae af ag, I p0.Account.Gap, S ah ai aj, I p0.Inside, I p0.Bins, S ak am an, S ao aq ar, S au av aw, S t y C, S G J K, S L M O, S Q U V, S X Y Z, S g m o], ownE 64 3 encApiFinding d.1 d.2.1 d.2.2 b0]) ?_ ?_
     ·refine sr <| la 2 ((27, B _) :: (26, I _) :: _) rfl <| nn <| cc rfl (fun b7 => ?_) (fun b7 => ?_)
      ·refine cm_region <| la 3 ((30, I _) :: (29, I _) :: (28, S _ _ _) :: _) rfl <| v_ 31 (fun _ _ => op_build (z := [I 0, I 0, I 0]) (tab := [(0, 1), (1, 1), (2, 1)]) (cs := [I _, I _, I _]) [(0, [I _]), (1, [I _]), (2, [I _])] (by kernel_rfl) (by kernel_rfl) (fillOk_cons rfl rfl rfl (fillOk_cons rfl rfl rfl (fillOk_cons rfl rfl rfl fillOk_nil))) rfl) <| lm_slice1 32 (el := 64) (sz := 3) (bytes := 24) (enc := encApiFinding) (ApiFinding.mk 15 a.2 b3) (by kernel_rfl) (by kernel_rfl) encApiFinding_len rfl (by kernel_rfl) fun bn bo bp bq => lm_ck (fun b8 => ?_)
       exact ap 33 2 (el := 64) (sz := 3) (bytes := 24) (enc := encApiFinding) (l2 := ([(ApiFinding.mk 15 a.2 b3)])) encApiFinding_len encApiFinding_one rfl rfl rfl (fun w1 c1 => (c1.ownZ 0 rfl)) (fun w1 c1 => (c1.own 0 rfl encApiFinding_len)) b8 fun b9 ba bb => la 1 ((4, S _ _ _) :: _) rfl <| lm_nil <| xn (b9, ba, bb) [1, 2]
      ·exact cm_skip <| xn (e.1, e.2.1, e.2.2) [0, 1]
     intro b0 d
     refine sr <| la 1 ((7, I _) :: _) rfl <| nn <| cm_block <| cm_loop (σ := Int) (ξ := Unit) (fun a1 b4 => [(1, .pointer (some ⟨b5, 0, none⟩)), (4, S d.1 d.2.1 d.2.2), (5, I a.2), (7, I a1)]) (fun a1 b4 => [blkE b5 40 [I p0.Now, S a2 a3 a4, S a5 a6 a7, S a8 a9 aa, S ab ac ad, S ae af ag, I p0.Account.Gap, S ah ai aj, I p0.Inside, I p0.Bins, S ak am an, S ao aq ar, S au av aw, S t y C, S G J K, S L M O, S Q U V, S X Y Z, S g m o], ownE 64 3 encApiFinding d.1 d.2.1 d.2.2 b0]) () ?_ ?_ ?_
     ·exact sq
     ·exact sh [0, 1]
     intro a1 b4
     refine cm_seq <| sr <| la 3 ((36, B _) :: (35, I _) :: (34, I _) :: _) rfl <| nn <| cc rfl (fun bc => ?_) (fun bc => ?_)
     ·refine sk <| cm_seq <| cm_block <| cm_seq <| cm_ck (fun ay => ?_)
      refine cm_ck (fun az => ?_)
      refine cm_drawn [(51, B (decide ((ix p0.Postings a1).ID = (ix p0.Postings a.2).ID)))] (by kernel_rfl) (by kernel_rfl) ?_ ?_
      ·exact qf 39 18 18 rfl <| qc 40 0 rfl rfl rfl <| qa 1 ((41, I _) :: _) rfl <| q_ 42 (fun _ c1 => oI 3 rfl rfl ((f.old c1).addr ay.1 ay.2) q.2.2 ay) <| qF 43 rfl <| q_ 44 (fun _ c1 => oL (v := I ((ix p0.Postings a1).ID)) ((f.old c1).cell0 ay.1 ay.2 rfl)) <| qf 45 18 18 rfl <| qc 46 0 rfl rfl rfl <| qa 1 ((47, I _) :: _) rfl <| q_ 48 (fun _ c1 => oI 3 rfl rfl ((f.old c1).addr az.1 az.2) q.2.2 az) <| qF 49 rfl <| q_ 50 (fun _ c1 => oL (v := I ((ix p0.Postings a.2).ID)) ((f.old c1).cell0 az.1 az.2 rfl)) <| qa 1 ((51, B _) :: _) rfl <| lq 13
      refine xm_next <| cc rfl (fun bd => ?_) (fun bd => ?_)
      ·refine sr <| la 3 ((54, I _) :: (53, I _) :: (52, S _ _ _) :: _) rfl <| v_ 55 (fun _ _ => op_build (z := [I 0, I 0, I 0]) (tab := [(0, 1), (1, 1), (2, 1)]) (cs := [I _, I _, I _]) [(0, [I _]), (1, [I _]), (2, [I _])] (by kernel_rfl) (by kernel_rfl) (fillOk_cons rfl rfl rfl (fillOk_cons rfl rfl rfl (fillOk_cons rfl rfl rfl fillOk_nil))) rfl) <| lm_slice1 56 (el := 64) (sz := 3) (bytes := 24) (enc := encApiFinding) (ApiFinding.mk 16 a.2 a1) (by kernel_rfl) (by kernel_rfl) encApiFinding_len rfl (by kernel_rfl) fun br bs bt bu => lm_ck (fun be => ?_)
       exact ap 57 2 (el := 64) (sz := 3) (bytes := 24) (enc := encApiFinding) (l2 := ([(ApiFinding.mk 16 a.2 a1)])) encApiFinding_len encApiFinding_one rfl rfl rfl (fun w1 c1 => (c1.ownZ 0 rfl)) (fun w1 c1 => (c1.own 0 rfl encApiFinding_len)) be fun bf bg bh => la 1 ((4, S _ _ _) :: _) rfl <| nn <| cm_exit <| xm_pass (by kernel_rfl) <| xm_thenE <| xm_lexit <| xm_here <| xm_inN <| xn (bf, bg, bh) [1, 2]
      ·refine cm_skip <| xm_inN <| xm_next <| cm_region <| la 1 ((37, I _) :: _) rfl <| lm_ck (fun bi => ?_)
       exact va 38 bi rfl rfl <| la 1 ((7, I _) :: _) rfl <| lm_nil <| xn () [0, 1]
     ·exact cm_exit <| xm_thenE <| xm_lexit <| xm_here <| xm_inN <| xn (d.1, d.2.1, d.2.2) [0, 1]
    intro b2 l
    refine cm_region <| la 1 ((18, I _) :: _) rfl <| lm_ck (fun bj => ?_)
    exact va 19 bj rfl rfl <| la 1 ((5, I _) :: _) rfl <| lm_nil <| xn (l.1, l.2.1, l.2.2) [0, 1]
   ·exact cm_exit <| xm_thenE <| xm_lexit <| xm_here <| xn (e.1, e.2.1, e.2.2) [1]
  intro b1 j
  exact sr <| la 3 ((3, I _) :: (2, S _ _ _) :: (58, S _ _ _) :: _) rfl <| nn <| cm_ret <| xrr [0] (j.1, j.2.1, j.2.2)
end Go.Proofs.YtbnimhmoffchdaaGreatDoor
