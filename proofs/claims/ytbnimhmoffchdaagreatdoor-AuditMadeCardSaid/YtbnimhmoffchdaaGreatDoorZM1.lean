/- Models of functions, and that the code follows them. Written by deco.py. -/
import Derived.Test.YtbnimhmoffchdaaGreatDoorZR1
namespace Go.Proofs.YtbnimhmoffchdaaGreatDoor
open Go.RowKit
set_option linter.unusedSectionVars false
variable [JF]

/-- bill.emptyings -/
def m_bill_emptyings (N : Nat) (p0 : ApiAccount) (p1 : Int) (p2 : ApiWindow) : Option ((List ApiItem) × Int) :=
 ck (I64 (p2.From * (86400 : Int))) (
  ck (I64 (p2.To * (86400 : Int))) (
   Option.bind (m_emptying_Of N p0.Emptyings p0.Assigns p1 (ApiWindow.mk (p2.From * (86400 : Int)) (p2.To * (86400 : Int))) p0.Gap) fun r9 => (if r9.2 ≠ 0 then
    some ((([] : List ApiItem), r9.2))
   else
    (andThen
     (loopM (fun (a : (List ApiItem) × Int) =>
      (if a.2 < (List.length r9.1 : Int) then
       ck ((0 : Int) ≤ a.2 ∧ a.2 < (List.length r9.1 : Int)) (
        ck ((0 : Int) ≤ (ix r9.1 a.2) ∧ (ix r9.1 a.2) < (List.length p0.Emptyings : Int)) (
         ck (I64 ((ix p0.Emptyings (ix r9.1 a.2)).At)) (
          Option.bind (m_tariff_At N p0.Tariffs (Int.tdiv ((ix p0.Emptyings (ix r9.1 a.2)).At) 86400)) fun b => (if b.2 ≠ 0 then
           some (.done (.done ((([] : List ApiItem), b.2))))
          else
           ck ((0 : Int) ≤ b.1 ∧ b.1 < (List.length p0.Tariffs : Int)) (
            Option.bind (m_tariff_Items N (ix p0.Tariffs b.1) (ix p0.Emptyings (ix r9.1 a.2))) fun d => (if d.2 ≠ 0 then
             some (.done (.done ((([] : List ApiItem), d.2))))
            else
             ck ((List.length a.1 + List.length d.1) * 40 ≤ 140737488355328) (
              ck (I64 (a.2 + (1 : Int))) (
               some (.next ((a.1 ++ d.1), (a.2 + (1 : Int))))))))))))
      else
       some (.done (.next a.1)))) N (([] : List ApiItem), (0 : Int)))
    fun (e : (List ApiItem)) =>
     some ((e, (0 : Int)))))))
set_option maxHeartbeats 2000000 in
set_option maxRecDepth 20000 in
theorem m_bill_emptyings_ok (N : Nat) (w0 : World) (p0 : ApiAccount) (p1 : Int) (p2 : ApiWindow) (j : Option Addr) (K : Nat) (L : Nat) (l : Option Addr) (M : Nat) (O : Nat) (f : Option Addr) (o : Nat) (q : Nat) (g : Option Addr) (t : Nat) (y : Nat) (i : Option Addr) (B : Nat) (C : Nat) (_hr_p01 : RdE w0 2 encApiHousehold j p0.Households) (_hz_p01 : SW j K L (List.length p0.Households)) (_hr_p02 : RdE w0 5 encApiContainer l p0.Containers) (_hz_p02 : SW l M O (List.length p0.Containers)) (a6 : RdE w0 4 encApiAssign f p0.Assigns) (a7 : SW f o q (List.length p0.Assigns)) (Z : RdE w0 7 encApiEmptying g p0.Emptyings) (a4 : SW g t y (List.length p0.Emptyings)) (a0 : RdE w0 5 encApiTariff i p0.Tariffs) (a5 : SW i B C (List.length p0.Tariffs)) (r : (List ApiItem) × Int) (hr : m_bill_emptyings N p0 p1 p2 = some r) :
  Ret Tryz.prog 27 [.agg #[.slice j K L, .slice l M O, .slice f o q, .slice g t y, .slice i B C, .int .i64 p0.Gap], .int .i64 p1, .agg #[.int .i64 p2.From, .int .i64 p2.To]] w0 (fun (r : (List ApiItem) × Int) (u : (Option Addr) × Nat × Nat) => .tuple #[.slice u.1 u.2.1 u.2.2, .int .i64 r.2]) (fun (r : (List ApiItem) × Int) (u : (Option Addr) × Nat × Nat) => [ownE 100 5 encApiItem u.1 u.2.1 u.2.2 r.1]) r := by
 refine calls_v (n := 79) r hr Tryz.func27 ?_
 unfold m_bill_emptyings
 refine sr <| lm_box 3 [.slice _ _ _, .slice _ _ _, .slice _ _ _, .slice _ _ _, .slice _ _ _, .int .i64 _] (by kernel_rfl) rfl ?_
 intro b5
 refine lm_box 5 [.int .i64 _, .int .i64 _] (by kernel_rfl) rfl ?_
 intro b6
 refine la 2 ((7, .int .i64 _) :: (6, .slice _ _ _) :: _) rfl <| nn <| sr <| v_ 18 (fun _ _ => oF 3 3 rfl) <| v_ 19 (fun _ c1 => oL (c1.cell 1 (u := .slice _ _ _) rfl rfl)) <| v_ 20 (fun _ _ => oF 2 2 rfl) <| v_ 21 (fun _ c1 => oL (c1.cell 1 (u := .slice _ _ _) rfl rfl)) <| la 1 ((22, .int .i64 _) :: _) rfl <| v_ 23 (fun _ _ => oF 0 0 rfl) <| v_ 24 (fun _ c1 => oL (c1.cell 0 (u := .int .i64 _) rfl rfl)) <| lm_ck (fun h7 => ?_)
 refine v_ 25 (fun _ _ => op_mul rfl rfl h7) <| v_ 26 (fun _ _ => oF 1 1 rfl) <| v_ 27 (fun _ c1 => oL (c1.cell 0 (u := .int .i64 _) rfl rfl)) <| lm_ck (fun h8 => ?_)
 refine v_ 28 (fun _ _ => op_mul rfl rfl h8) <| v_ 29 (fun _ _ => op_build (z := [.int .i64 0, .int .i64 0]) (tab := [(0, 1), (1, 1)]) (cs := [.int .i64 _, .int .i64 _]) [(0, [.int .i64 _]), (1, [.int .i64 _])] (by kernel_rfl) (by kernel_rfl) (fillOk_cons rfl rfl rfl (fillOk_cons rfl rfl rfl fillOk_nil)) rfl) <| v_ 30 (fun _ _ => oF 5 5 rfl) <| v_ 31 (fun _ c1 => oL (c1.cell 1 (u := .int .i64 _) rfl rfl)) <| lm_call 32 (V := (fun (r : (List Int) × Int) (u : (Option Addr) × Nat × Nat) => .tuple #[.slice u.1 u.2.1 u.2.2, .int .i64 r.2])) (HR := (fun (r : (List Int) × Int) (u : (Option Addr) × Nat × Nat) => [ownE 3 1 encI u.1 u.2.1 u.2.2 r.1])) (by kernel_rfl) (fun w1 => op_call (by kernel_rfl)) (fun r1 hr1 w1 c1 => m_emptying_Of_ok N w1 p0.Emptyings p0.Assigns p1 (ApiWindow.mk (p2.From * (86400 : Int)) (p2.To * (86400 : Int))) p0.Gap g t y f o q (Z.old c1) a4 (a6.old c1) a7 r1 hr1) ?_
 intro r9 d
 refine la 5 ((9, .int .i64 _) :: (8, .slice _ _ _) :: (34, .int .i64 _) :: (33, .slice _ _ _) :: (17, .tuple _) :: _) rfl <| nn <| cm_seq <| sr <| la 2 ((36, .bool _) :: (35, .int .i64 _) :: _) rfl <| nn <| cm_cond (by kernel_rfl) rfl (fun ak => ?_) (fun ak => ?_)
 ·refine sr <| la 3 ((7, .int .i64 _) :: (6, .slice _ _ _) :: (37, .int .i64 _) :: _) rfl <| nn <| cm_ret <| xm_thenR <| xm_nilrow 100 5 encApiItem ?_
  exact xm_retTT rfl (by kernel_rfl) (show _ = Value.slice _ _ _ from rfl) (by kernel_rfl) (show _ = Value.int .i64 _ from rfl) fun w1 c1 => ⟨(none, 0, 0), rfl, hsub [0] (by kernel_rfl) rfl w1 c1⟩
 ·refine sk <| sr <| la 1 ((10, .slice _ _ _) :: _) rfl <| nn <| cm_join (σ := (List ApiItem)) (ξ := (Option Addr) × Nat × Nat) (fun a8 e => [(10, .slice e.1 e.2.1 e.2.2)]) (fun a8 e => [ownE 100 5 encApiItem e.1 e.2.1 e.2.2 a8]) ?_ ?_
  ·refine sr <| la 1 ((38, .slice _ _ _) :: _) rfl <| v_ 39 (fun _ c1 => op_lenN rfl (by kernel_rfl) (c1.ownZ 0 rfl).2.2) <| la 1 ((40, .int .i64 _) :: _) rfl <| nn <| cm_block <| cm_nilrow 100 5 encApiItem <| cm_loop (σ := (List ApiItem) × Int) (ξ := (Option Addr) × Nat × Nat) (fun a b => [(3, .pointer (some ⟨b5, 0, none⟩)), (10, .slice b.1 b.2.1 b.2.2), (38, .slice d.1 d.2.1 d.2.2), (39, .int .i64 (List.length r9.1 : Int)), (40, .int .i64 a.2)]) (fun a b => [blkE b5 28 [.slice j K L, .slice l M O, .slice f o q, .slice g t y, .slice i B C, .int .i64 p0.Gap], ownE 100 5 encApiItem b.1 b.2.1 b.2.2 a.1, ownE 3 1 encI d.1 d.2.1 d.2.2 r9.1]) (none, 0, 0) ?_ ?_ ?_
   ·exact sq
   ·exact sh [3, 0, 1]
   intro a b
   refine sr <| la 1 ((41, .bool _) :: _) rfl <| nn <| cm_seq <| cm_cond (by kernel_rfl) rfl (fun aa => ?_) (fun aa => ?_)
   ·refine sk <| cm_seq <| cm_block <| sr <| lm_ck (fun a1 => ?_)
    refine v_ 42 (fun _ c1 => oI 1 rfl rfl ((c1.own 2 rfl encI_len).addr a1.1 a1.2) (c1.ownZ 2 rfl).2.2 a1) <| v_ 43 (fun _ c1 => oL (v := .int .i64 (ix r9.1 a.2)) ((c1.own 2 rfl encI_len).cell0 a1.1 a1.2 rfl)) <| la 1 ((12, .int .i64 _) :: _) rfl <| nn <| sr <| v_ 44 (fun _ _ => oF 3 3 rfl) <| v_ 45 (fun _ c1 => oL (c1.cell 0 (u := .slice _ _ _) rfl rfl)) <| la 1 ((46, .int .i64 _) :: _) rfl <| lm_ck (fun a2 => ?_)
    refine v_ 47 (fun _ c1 => oI 7 rfl rfl ((Z.old c1).addr a2.1 a2.2) a4.2.2 a2) <| v_ 48 (fun _ c1 => oR [.int .i64 ((ix p0.Emptyings (ix r9.1 a.2)).ID), .int .i64 ((ix p0.Emptyings (ix r9.1 a.2)).Container), .int .i64 ((ix p0.Emptyings (ix r9.1 a.2)).Vehicle), .int .i64 ((ix p0.Emptyings (ix r9.1 a.2)).At), .int .i64 ((ix p0.Emptyings (ix r9.1 a.2)).Mass.Lo), .int .i64 ((ix p0.Emptyings (ix r9.1 a.2)).Mass.Hi), .bool ((ix p0.Emptyings (ix r9.1 a.2)).Void)] ((Z.old c1).row a2.1 a2.2)) <| lm_alloc 13 [.int .i64 0, .int .i64 0, .int .i64 0, .int .i64 0, .int .i64 0, .int .i64 0, .bool false] (v := .agg #[.int .i64 0, .int .i64 0, .int .i64 0, .int .i64 0, .int .i64 0, .int .i64 0, .bool false]) (by kernel_rfl) (by kernel_rfl) rfl ?_
    intro a9
    refine lm_storeA 0 [.int .i64 _, .int .i64 _, .int .i64 _, .int .i64 _, .int .i64 _, .int .i64 _, .bool _] [_, _, _, _, _, _, _] (H' := [blkE _ _ [_, _, _, _, _, _, _], _, _, _]) (by kernel_rfl) rfl rfl (by kernel_rfl) rfl rfl (by kernel_rfl) rfl rfl <| nn <| sr <| v_ 50 (fun _ _ => oF 4 4 rfl) <| v_ 51 (fun _ c1 => oL (c1.cell 1 (u := .slice _ _ _) rfl rfl)) <| v_ 52 (fun _ _ => oF 3 3 rfl) <| v_ 53 (fun _ c1 => oL (c1.cell 0 (u := .int .i64 _) rfl rfl)) <| lm_ck (fun ab => ?_)
    refine v_ 54 (fun _ _ => op_quoK rfl rfl (by kernel_rfl) ab) <| lm_call 55 (V := (fun (r : Int × Int) (_u : Unit) => .tuple #[.int .i64 r.1, .int .i64 r.2])) (HR := (fun (_r : Int × Int) (_u : Unit) => [])) (by kernel_rfl) (fun w1 => op_call (by kernel_rfl)) (fun r1 hr1 w1 c1 => m_tariff_At_ok N w1 p0.Tariffs (Int.tdiv ((ix p0.Emptyings (ix r9.1 a.2)).At) 86400) i B C (a0.old c1) a5 r1 hr1) ?_
    intro U al
    refine la 5 ((15, .int .i64 _) :: (14, .int .i64 _) :: (57, .int .i64 _) :: (56, .int .i64 _) :: (49, .tuple _) :: _) rfl <| nn <| cm_seq <| sr <| la 2 ((59, .bool _) :: (58, .int .i64 _) :: _) rfl <| nn <| cm_cond (by kernel_rfl) rfl (fun ac => ?_) (fun ac => ?_)
    ·refine sr <| la 3 ((7, .int .i64 _) :: (6, .slice _ _ _) :: (60, .int .i64 _) :: _) rfl <| nn <| cm_ret <| xm_thenR <| xm_inR <| xm_thenR <| xm_lret <| xm_inR <| xm_lret <| xm_nilrow 100 5 encApiItem ?_
     exact xm_retTT rfl (by kernel_rfl) (show _ = Value.slice _ _ _ from rfl) (by kernel_rfl) (show _ = Value.int .i64 _ from rfl) fun w1 c1 => ⟨(none, 0, 0), rfl, hsub [0] (by kernel_rfl) rfl w1 c1⟩
    ·refine sk <| cm_seq <| cm_ck (fun X => ?_)
     refine cm_bind fun a3 ad => cm_held (ξ := (Option Addr) × Nat × Nat) (fun J => [(3, .pointer (some ⟨b5, 0, none⟩)), (10, .slice b.1 b.2.1 b.2.2), (15, .int .i64 a3.2), (16, .slice J.1 J.2.1 J.2.2), (38, .slice d.1 d.2.1 d.2.2), (39, .int .i64 (List.length r9.1 : Int)), (40, .int .i64 a.2)]) (fun J => [blkE b5 28 [.slice j K L, .slice l M O, .slice f o q, .slice g t y, .slice i B C, .int .i64 p0.Gap], ownE 100 5 encApiItem b.1 b.2.1 b.2.2 a.1, ownE 100 5 encApiItem J.1 J.2.1 J.2.2 a3.1, ownE 3 1 encI d.1 d.2.1 d.2.2 r9.1]) [blkE a9 117 [.int .i64 ((ix p0.Emptyings (ix r9.1 a.2)).ID), .int .i64 ((ix p0.Emptyings (ix r9.1 a.2)).Container), .int .i64 ((ix p0.Emptyings (ix r9.1 a.2)).Vehicle), .int .i64 ((ix p0.Emptyings (ix r9.1 a.2)).At), .int .i64 ((ix p0.Emptyings (ix r9.1 a.2)).Mass.Lo), .int .i64 ((ix p0.Emptyings (ix r9.1 a.2)).Mass.Hi), .bool ((ix p0.Emptyings (ix r9.1 a.2)).Void)], blkE b5 28 [.slice j K L, .slice l M O, .slice f o q, .slice g t y, .slice i B C, .int .i64 p0.Gap], ownE 100 5 encApiItem b.1 b.2.1 b.2.2 a.1, ownE 3 1 encI d.1 d.2.1 d.2.2 r9.1] 12 (by kernel_rfl) (by rfl) (hsub [0, 1, 2, 3] (by kernel_rfl) (by rfl)) ?_ ?_
     ·intro am Q
      refine wh_take 0 62 rfl (by kernel_rfl) (by kernel_rfl) (fun w2 c2 => (op_fieldL (m := 4) (k := 4) rfl (by kernel_rfl) rfl)) (hsub [0, 1, 2, 3] (by kernel_rfl) rfl _ Q) <| wh_take 1 63 rfl (by kernel_rfl) (by kernel_rfl) (fun w2 c2 => (op_load rfl (by kernel_rfl) (c2.cell 1 (u := .slice _ _ _) rfl rfl))) (hsub [0, 1, 2, 3] (by kernel_rfl) rfl _ Q) <| wh_take 2 64 rfl (by kernel_rfl) (by kernel_rfl) (fun w2 c2 => (op_move (v := .int .i64 _) rfl)) (hsub [0, 1, 2, 3] (by kernel_rfl) rfl _ Q) <| wh_take 3 65 rfl (by kernel_rfl) (by kernel_rfl) (fun w2 c2 => (op_indexA 5 rfl rfl (by kernel_rfl) ((a0.old c2).addr X.1 X.2) a5.2.2 X.1 X.2)) (hsub [0, 1, 2, 3] (by kernel_rfl) rfl _ Q) <| wh_take 4 66 rfl (by kernel_rfl) (by kernel_rfl) (fun w2 c2 => (op_loadR [.int .i64 ((ix p0.Tariffs U.1).From), .int .i64 ((ix p0.Tariffs U.1).Base), .int .i64 ((ix p0.Tariffs U.1).Empty), .int .i64 ((ix p0.Tariffs U.1).Kilo), .int .i64 ((ix p0.Tariffs U.1).Free)] rfl (by kernel_rfl) ((a0.old c2).row X.1 X.2))) (hsub [0, 1, 2, 3] (by kernel_rfl) rfl _ Q) <| wh_take 5 67 rfl (by kernel_rfl) (by kernel_rfl) (fun w2 c2 => (op_loadR [.int .i64 _, .int .i64 _, .int .i64 _, .int .i64 _, .int .i64 _, .int .i64 _, .bool _] rfl (by kernel_rfl) (c2.cells 0 rfl rfl))) (hsub [0, 1, 2, 3] (by kernel_rfl) rfl _ Q) <| wh_ready [6] (by kernel_rfl) rfl ⟨?_, trivial⟩
      refine ws_call 68 rfl (by kernel_rfl) (op_call (by kernel_rfl)) (m_tariff_Items_ok N _ (ix p0.Tariffs U.1) (ix p0.Emptyings (ix r9.1 a.2))  a3 ad) ?_
      rintro x an ⟨Y, rfl, G⟩
      replace G := Q.call G
      refine ⟨_, rfl, (hsub [1, 2, 3, 4] (by kernel_rfl) rfl _ G), ?_⟩
      refine wh_strong (Hs w0 [ownE 100 5 encApiItem Y.1 Y.2.1 Y.2.2 a3.1, blkE a9 117 [.int .i64 ((ix p0.Emptyings (ix r9.1 a.2)).ID), .int .i64 ((ix p0.Emptyings (ix r9.1 a.2)).Container), .int .i64 ((ix p0.Emptyings (ix r9.1 a.2)).Vehicle), .int .i64 ((ix p0.Emptyings (ix r9.1 a.2)).At), .int .i64 ((ix p0.Emptyings (ix r9.1 a.2)).Mass.Lo), .int .i64 ((ix p0.Emptyings (ix r9.1 a.2)).Mass.Hi), .bool ((ix p0.Emptyings (ix r9.1 a.2)).Void)], blkE b5 28 [.slice j K L, .slice l M O, .slice f o q, .slice g t y, .slice i B C, .int .i64 p0.Gap], ownE 100 5 encApiItem b.1 b.2.1 b.2.2 a.1, ownE 3 1 encI d.1 d.2.1 d.2.2 r9.1]) (fun w2 c2 => hsub [1, 2, 3, 4] (by kernel_rfl) rfl w2 c2) <| wh_take 7 61 rfl (by kernel_rfl) (by kernel_rfl) (fun w2 c2 => (op_move (v := .tuple _) rfl)) (hsub [0, 1, 2, 3, 4] (by kernel_rfl) rfl _ G) <| wh_take 8 69 rfl (by kernel_rfl) (by kernel_rfl) (fun w2 c2 => (op_extract (v := .slice _ _ _) rfl rfl)) (hsub [0, 1, 2, 3, 4] (by kernel_rfl) rfl _ G) <| wh_take 9 70 rfl (by kernel_rfl) (by kernel_rfl) (fun w2 c2 => (op_extract (v := .int .i64 _) rfl rfl)) (hsub [0, 1, 2, 3, 4] (by kernel_rfl) rfl _ G) <| wh_take 10 16 rfl (by kernel_rfl) (by kernel_rfl) (fun w2 c2 => (op_assign (v := .slice _ _ _) rfl)) (hsub [0, 1, 2, 3, 4] (by kernel_rfl) rfl _ G) <| wh_take 11 15 rfl (by kernel_rfl) (by kernel_rfl) (fun w2 c2 => (op_assign (v := .int .i64 _) rfl)) (hsub [0, 1, 2, 3, 4] (by kernel_rfl) rfl _ G) ?_
      exact wh_done (Y.1, Y.2.1, Y.2.2) (by kernel_rfl) sq (hsub [2, 3, 0, 4] (by kernel_rfl) rfl _ G)
     intro J
     refine xm_next <| cm_seq <| sr <| la 2 ((72, .bool _) :: (71, .int .i64 _) :: _) rfl <| nn <| cm_cond (by kernel_rfl) rfl (fun ae => ?_) (fun ae => ?_)
     ·refine sr <| la 3 ((7, .int .i64 _) :: (6, .slice _ _ _) :: (73, .int .i64 _) :: _) rfl <| nn <| cm_ret <| xm_thenR <| xm_inR <| xm_thenR <| xm_lret <| xm_inR <| xm_lret <| xm_nilrow 100 5 encApiItem ?_
      exact xm_retTT rfl (by kernel_rfl) (show _ = Value.slice _ _ _ from rfl) (by kernel_rfl) (show _ = Value.int .i64 _ from rfl) fun w1 c1 => ⟨(none, 0, 0), rfl, hsub [0] (by kernel_rfl) rfl w1 c1⟩
     ·refine sk <| cm_region <| la 2 ((75, .slice _ _ _) :: (74, .slice _ _ _) :: _) rfl <| lm_ck (fun af => ?_)
      refine lm_append 76 1 (el := 100) (sz := 5) (bytes := 40) (enc := encApiItem) (l2 := a3.1) (by kernel_rfl) (by kernel_rfl) encApiItem_len encApiItem_one rfl rfl rfl (fun w1 c1 => (c1.ownZ 2 rfl)) (fun w1 c1 => (c1.own 2 rfl encApiItem_len)) af ?_ (by kernel_rfl)
      intro ag ah ai
      refine la 1 ((10, .slice _ _ _) :: _) rfl <| lm_nil <| xm_inN <| xm_next <| cm_region <| lm_ck (fun aj => ?_)
      refine v_ 77 (fun _ _ => op_add rfl rfl aj) <| la 1 ((40, .int .i64 _) :: _) rfl <| lm_nil ?_
      exact xm_lnext (ag, ah, ai) sq (sh [0, 1, 3])
   ·refine cm_exit <| xm_thenE <| xm_lexit <| xm_here ?_
    exact xm_lnext (b.1, b.2.1, b.2.2) sq (sh [1])
  intro a8 e
  refine sr <| la 3 ((7, .int .i64 _) :: (6, .slice _ _ _) :: (78, .slice _ _ _) :: _) rfl <| nn <| cm_ret ?_
  exact xm_retTT rfl (by kernel_rfl) (show _ = Value.slice _ _ _ from rfl) (by kernel_rfl) (show _ = Value.int .i64 _ from rfl) fun w1 c1 => ⟨(e.1, e.2.1, e.2.2), rfl, hsub [0] (by kernel_rfl) rfl w1 c1⟩
/-- bill.sum -/
def m_bill_sum (N : Nat) (p0 : (List ApiItem)) : Option (Int) :=
 (andThen
  (loopM (fun (a : Int × Int) =>
   (if a.2 < (List.length p0 : Int) then
    ck ((0 : Int) ≤ a.2 ∧ a.2 < (List.length p0 : Int)) (
     ck (I64 (a.1 + ((ix p0 a.2).Amount))) (
      ck (I64 (a.2 + (1 : Int))) (
       some (.next ((a.1 + ((ix p0 a.2).Amount)), (a.2 + (1 : Int)))))))
   else
    some (.done (.next a.1)))) N ((0 : Int), (0 : Int)))
 fun (b : Int) =>
  some (b))
set_option maxRecDepth 20000 in
theorem m_bill_sum_ok (N : Nat) (w0 : World) (p0 : (List ApiItem)) (b : Option Addr) (e : Nat) (f : Nat) (g : RdE w0 5 encApiItem b p0) (i : SW b e f (List.length p0)) (r : Int) (hr : m_bill_sum N p0 = some r) :
  Ret Tryz.prog 28 [.slice b e f] w0 (fun (r : Int) (_u : Unit) => .int .i64 r) (fun (_r : Int) (_u : Unit) => []) r := by
 refine calls_v (n := 18) r hr Tryz.func28 ?_
 unfold m_bill_sum
 refine sr <| la 1 ((2, .int .i64 _) :: _) rfl <| nn <| sr <| la 1 ((3, .int .i64 _) :: _) rfl <| nn <| cm_join (σ := Int) (ξ := Unit) (fun j l => [(3, .int .i64 j)]) (fun j l => []) ?_ ?_
 ·refine sr <| la 1 ((6, .slice _ _ _) :: _) rfl <| v_ 7 (fun _ _ => op_lenN rfl (by kernel_rfl) i.2.2) <| la 1 ((8, .int .i64 _) :: _) rfl <| nn <| cm_block <| cm_loop (σ := Int × Int) (ξ := Unit) (fun a m => [(3, .int .i64 a.1), (6, .slice b e f), (7, .int .i64 (List.length p0 : Int)), (8, .int .i64 a.2)]) (fun a m => []) () ?_ ?_ ?_
  ·exact sq
  ·exact sh []
  intro a m
  refine sr <| la 1 ((9, .bool _) :: _) rfl <| nn <| cm_seq <| cm_cond (by kernel_rfl) rfl (fun o => ?_) (fun o => ?_)
  ·refine sk <| cm_seq <| cm_block <| sr <| lm_ck (fun d => ?_)
   refine v_ 10 (fun _ c1 => oI 5 rfl rfl ((g.old c1).addr d.1 d.2) i.2.2 d) <| v_ 11 (fun _ c1 => oR [.int .i64 ((ix p0 a.2).Kind), .int .i64 ((ix p0 a.2).Ref), .int .i64 ((ix p0 a.2).Count), .int .i64 ((ix p0 a.2).Price), .int .i64 ((ix p0 a.2).Amount)] ((g.old c1).row d.1 d.2)) <| lm_alloc 5 [.int .i64 0, .int .i64 0, .int .i64 0, .int .i64 0, .int .i64 0] (v := .agg #[.int .i64 0, .int .i64 0, .int .i64 0, .int .i64 0, .int .i64 0]) (by kernel_rfl) (by kernel_rfl) rfl ?_
   intro x
   refine lm_storeA 0 [.int .i64 _, .int .i64 _, .int .i64 _, .int .i64 _, .int .i64 _] [_, _, _, _, _] (H' := [blkE _ _ [_, _, _, _, _]]) (by kernel_rfl) rfl rfl (by kernel_rfl) rfl rfl (by kernel_rfl) rfl rfl <| nn <| cm_region <| la 1 ((12, .int .i64 _) :: _) rfl <| v_ 13 (fun _ _ => oF 4 4 rfl) <| v_ 14 (fun _ c1 => oL (c1.cell 0 (u := .int .i64 _) rfl rfl)) <| lm_ck (fun q => ?_)
   refine v_ 15 (fun _ _ => op_add rfl rfl q) <| la 1 ((3, .int .i64 _) :: _) rfl <| lm_nil <| xm_inN <| xm_next <| cm_region <| lm_ck (fun t => ?_)
   refine v_ 16 (fun _ _ => op_add rfl rfl t) <| la 1 ((8, .int .i64 _) :: _) rfl <| lm_nil ?_
   exact xm_lnext () sq (sh [])
  ·refine cm_exit <| xm_thenE <| xm_lexit <| xm_here ?_
   exact xm_lnext () sq (sh [])
 intro j l
 refine sr <| la 2 ((2, .int .i64 _) :: (17, .int .i64 _) :: _) rfl <| nn <| cm_ret ?_
 exact xm_retT rfl (by kernel_rfl) (show _ = Value.int .i64 _ from rfl) fun w1 c1 => ⟨(), rfl, hsub [] (by kernel_rfl) rfl w1 c1⟩
/-- bill.Make -/
def m_bill_Make (N : Nat) (p0 : ApiAccount) (p1 : Int) (p2 : Int) (p3 : ApiWindow) : Option (ApiBill × Int) :=
 Option.bind (m_bill_Check N p0) fun r8 => (if r8 ≠ 0 then
  some (((ApiBill.mk 0 0 (ApiWindow.mk 0 0) ([] : List ApiItem) 0), r8))
 else
  (if ((decide (p1 < 1)) || (decide (1000000 < p1))) = true then
   some (((ApiBill.mk 0 0 (ApiWindow.mk 0 0) ([] : List ApiItem) 0), (1 : Int)))
  else
   (if ((decide (p2 < 0)) || (decide ((List.length p0.Households : Int) ≤ p2))) = true then
    some (((ApiBill.mk 0 0 (ApiWindow.mk 0 0) ([] : List ApiItem) 0), (7 : Int)))
   else
    (if (((decide (p3.From < 0)) || (decide (p3.To < p3.From))) || (decide (36525 < p3.To))) = true then
     some (((ApiBill.mk 0 0 (ApiWindow.mk 0 0) ([] : List ApiItem) 0), (1 : Int)))
    else
     Option.bind (m_tariff_Base N p0.Tariffs p3) fun a => (if a.2 ≠ 0 then
      some (((ApiBill.mk 0 0 (ApiWindow.mk 0 0) ([] : List ApiItem) 0), a.2))
     else
      Option.bind (m_bill_emptyings N p0 p2 p3) fun b => (if b.2 ≠ 0 then
       some (((ApiBill.mk 0 0 (ApiWindow.mk 0 0) ([] : List ApiItem) 0), b.2))
      else
       ck ((List.length a.1 + List.length b.1) * 40 ≤ 140737488355328) (
        (if 512 < (List.length (a.1 ++ b.1) : Int) then
         some (((ApiBill.mk 0 0 (ApiWindow.mk 0 0) ([] : List ApiItem) 0), (8 : Int)))
        else
         Option.bind (m_bill_sum N (a.1 ++ b.1)) fun d => (if 1000000000000 < d then
          some (((ApiBill.mk 0 0 (ApiWindow.mk 0 0) ([] : List ApiItem) 0), (2 : Int)))
         else
          some (((ApiBill.mk p1 p2 p3 (a.1 ++ b.1) d), (0 : Int))))))))))))
set_option maxHeartbeats 2000000 in
set_option maxRecDepth 20000 in
theorem m_bill_Make_ok (N : Nat) (w0 : World) (p0 : ApiAccount) (p1 : Int) (p2 : Int) (p3 : ApiWindow) (b : Option Addr) (j : Nat) (l : Nat) (d : Option Addr) (m : Nat) (o : Nat) (e : Option Addr) (q : Nat) (t : Nat) (f : Option Addr) (y : Nat) (B : Nat) (a : Option Addr) (g : Nat) (i : Nat) (U : RdE w0 2 encApiHousehold b p0.Households) (G : SW b j l (List.length p0.Households)) (X : RdE w0 5 encApiContainer d p0.Containers) (Y : SW d m o (List.length p0.Containers)) (Z : RdE w0 4 encApiAssign e p0.Assigns) (a0 : SW e q t (List.length p0.Assigns)) (a1 : RdE w0 7 encApiEmptying f p0.Emptyings) (a2 : SW f y B (List.length p0.Emptyings)) (J : RdE w0 5 encApiTariff a p0.Tariffs) (K : SW a g i (List.length p0.Tariffs)) (r : ApiBill × Int) (hr : m_bill_Make N p0 p1 p2 p3 = some r) :
  Ret Tryz.prog 11 [.agg #[.slice b j l, .slice d m o, .slice e q t, .slice f y B, .slice a g i, .int .i64 p0.Gap], .int .i64 p1, .int .i64 p2, .agg #[.int .i64 p3.From, .int .i64 p3.To]] w0 (fun (r : ApiBill × Int) (u : (Option Addr) × Nat × Nat) => .tuple #[.agg #[.int .i64 r.1.ID, .int .i64 r.1.Household, .int .i64 r.1.When.From, .int .i64 r.1.When.To, .slice u.1 u.2.1 u.2.2, .int .i64 r.1.Total], .int .i64 r.2]) (fun (r : ApiBill × Int) (u : (Option Addr) × Nat × Nat) => [ownE 100 5 encApiItem u.1 u.2.1 u.2.2 r.1.Items]) r := by
 refine calls_v (n := 98) r hr Tryz.func11 ?_
 unfold m_bill_Make
 refine sr <| lm_box 4 [.slice _ _ _, .slice _ _ _, .slice _ _ _, .slice _ _ _, .slice _ _ _, .int .i64 _] (by kernel_rfl) rfl ?_
 intro b5
 refine lm_box 7 [.int .i64 _, .int .i64 _] (by kernel_rfl) rfl ?_
 intro b6
 refine lm_alloc 8 [.int .i64 0, .int .i64 0, .int .i64 0, .int .i64 0, .slice none 0 0, .int .i64 0] (v := .agg #[.int .i64 0, .int .i64 0, .int .i64 0, .int .i64 0, .slice none 0 0, .int .i64 0]) (by kernel_rfl) (by kernel_rfl) rfl ?_
 intro b7
 refine la 1 ((9, .int .i64 _) :: _) rfl <| nn <| cm_seq <| sr <| v_ 15 (fun _ c1 => oR [.slice _ _ _, .slice _ _ _, .slice _ _ _, .slice _ _ _, .slice _ _ _, .int .i64 _] (c1.cells 2 rfl rfl)) <| lm_call 16 (V := (fun (r : Int) (_u : Unit) => .int .i64 r)) (HR := (fun (_r : Int) (_u : Unit) => [])) (by kernel_rfl) (fun w1 => op_call (by kernel_rfl)) (fun r1 hr1 w1 c1 => m_bill_Check_ok N w1 p0 b j l d m o e q t f y B a g i (U.old c1) G (X.old c1) Y (Z.old c1) a0 (a1.old c1) a2 (J.old c1) K r1 hr1) ?_
 intro r8 u9
 refine la 1 ((10, .int .i64 _) :: _) rfl <| nn <| sr <| la 2 ((18, .bool _) :: (17, .int .i64 _) :: _) rfl <| nn <| cm_cond (by kernel_rfl) rfl (fun ai => ?_) (fun ai => ?_)
 ·refine sr <| v_ 19 (fun _ _ => op_build (z := [.int .i64 0, .int .i64 0, .int .i64 0, .int .i64 0, .slice none 0 0, .int .i64 0]) (tab := [(0, 1), (1, 1), (2, 2), (4, 1), (5, 1)]) (cs := [.int .i64 _, .int .i64 _, .int .i64 _, .int .i64 _, .slice _ _ _, .int .i64 _]) [] (by kernel_rfl) (by kernel_rfl) fillOk_nil rfl) <| la 1 ((20, .int .i64 _) :: _) rfl <| lm_storeA 0 [.int .i64 _, .int .i64 _, .int .i64 _, .int .i64 _, .slice _ _ _, .int .i64 _] [_, _, _, _, _, _] (H' := [blkE _ _ [_, _, _, _, _, _], _, _]) (by kernel_rfl) rfl rfl (by kernel_rfl) rfl rfl (by kernel_rfl) rfl rfl <| la 1 ((9, .int .i64 _) :: _) rfl <| nn <| cm_ret <| xm_thenR <| xm_nilrow 100 5 encApiItem ?_
  exact xm_retCT rfl (by kernel_rfl) (show _ = Value.pointer (some ⟨_, 0, none⟩) from rfl) (by kernel_rfl) (fun w1 c1 => c1.cells 1 (ds := [.int .i64 _, .int .i64 _, .int .i64 _, .int .i64 _, .slice _ _ _, .int .i64 _]) rfl rfl) (by kernel_rfl) (show _ = Value.int .i64 _ from rfl) fun w1 c1 => ⟨(none, 0, 0), rfl, hsub [0] (by kernel_rfl) rfl w1 c1⟩
 ·refine sk <| cm_seq <| cm_block <| cm_seq <| cm_cutE [(21, .bool ((decide (p1 < 1)) || (decide (1000000 < p1))))] ?_ ?_
  ·refine qa 1 ((22, .int .i64 _) :: _) rfl <| qd 23 (fun _ _ => op_lss rfl rfl) (fun a9 => ?_) (fun a9 => ?_)
   ·refine qa 5 ((21, .bool true) :: (27, .bool true) :: (26, undef) :: (25, undef) :: (24, .bool true) :: _) rfl ?_
    exact leaf_q (sub_out 7 _ rfl (by kernel_rfl) ⟨(congrArg Value.bool (by rw [decide_eq_true a9] <;> rfl)), trivial⟩)
   ·refine qa 5 ((21, .bool _) :: (27, .bool _) :: (26, .bool _) :: (25, .int .i64 _) :: (24, .bool false) :: _) rfl ?_
    exact leaf_q (sub_out 7 _ rfl (by kernel_rfl) ⟨(congrArg Value.bool (by rw [decide_eq_false a9] <;> rfl)), trivial⟩)
  refine xm_next <| cm_condB (by kernel_rfl) rfl (fun aj => ?_) (fun aj => ?_)
  ·refine sr <| v_ 28 (fun _ _ => op_build (z := [.int .i64 0, .int .i64 0, .int .i64 0, .int .i64 0, .slice none 0 0, .int .i64 0]) (tab := [(0, 1), (1, 1), (2, 2), (4, 1), (5, 1)]) (cs := [.int .i64 _, .int .i64 _, .int .i64 _, .int .i64 _, .slice _ _ _, .int .i64 _]) [] (by kernel_rfl) (by kernel_rfl) fillOk_nil rfl) <| lm_storeA 0 [.int .i64 _, .int .i64 _, .int .i64 _, .int .i64 _, .slice _ _ _, .int .i64 _] [_, _, _, _, _, _] (H' := [blkE _ _ [_, _, _, _, _, _], _, _]) (by kernel_rfl) rfl rfl (by kernel_rfl) rfl rfl (by kernel_rfl) rfl rfl <| la 1 ((9, .int .i64 _) :: _) rfl <| nn <| cm_ret <| xm_inR <| xm_thenR <| xm_nilrow 100 5 encApiItem ?_
   exact xm_retCT rfl (by kernel_rfl) (show _ = Value.pointer (some ⟨_, 0, none⟩) from rfl) (by kernel_rfl) (fun w1 c1 => c1.cells 1 (ds := [.int .i64 _, .int .i64 _, .int .i64 _, .int .i64 _, .slice _ _ _, .int .i64 _]) rfl rfl) (by kernel_rfl) (show _ = Value.int .i64 _ from rfl) fun w1 c1 => ⟨(none, 0, 0), rfl, hsub [0] (by kernel_rfl) rfl w1 c1⟩
  ·refine cm_seq <| cm_cutE [(29, .bool ((decide (p2 < 0)) || (decide ((List.length p0.Households : Int) ≤ p2))))] ?_ ?_
   ·refine qa 1 ((30, .int .i64 _) :: _) rfl <| qd 31 (fun _ _ => op_lss rfl rfl) (fun aa => ?_) (fun aa => ?_)
    ·refine qa 8 ((29, .bool true) :: (38, .bool true) :: (37, undef) :: (36, undef) :: (35, undef) :: (34, undef) :: (33, undef) :: (32, .bool true) :: _) rfl ?_
     exact leaf_q (sub_out 10 _ rfl (by kernel_rfl) ⟨(congrArg Value.bool (by rw [decide_eq_true aa] <;> rfl)), trivial⟩)
    ·refine qa 2 ((33, .int .i64 _) :: (32, .bool false) :: _) rfl <| q_ 34 (fun _ _ => oF 0 0 rfl) <| q_ 35 (fun _ c1 => oL (c1.cell 2 (u := .slice _ _ _) rfl rfl)) <| q_ 36 (fun _ _ => op_lenN rfl (by kernel_rfl) G.2.2) <| qa 3 ((29, .bool _) :: (38, .bool _) :: (37, .bool _) :: _) rfl ?_
     exact leaf_q (sub_out 10 _ rfl (by kernel_rfl) ⟨(congrArg Value.bool (by rw [decide_eq_false aa] <;> rfl)), trivial⟩)
   refine xm_next <| cm_condB (by kernel_rfl) rfl (fun ak => ?_) (fun ak => ?_)
   ·refine sr <| v_ 39 (fun _ _ => op_build (z := [.int .i64 0, .int .i64 0, .int .i64 0, .int .i64 0, .slice none 0 0, .int .i64 0]) (tab := [(0, 1), (1, 1), (2, 2), (4, 1), (5, 1)]) (cs := [.int .i64 _, .int .i64 _, .int .i64 _, .int .i64 _, .slice _ _ _, .int .i64 _]) [] (by kernel_rfl) (by kernel_rfl) fillOk_nil rfl) <| lm_storeA 0 [.int .i64 _, .int .i64 _, .int .i64 _, .int .i64 _, .slice _ _ _, .int .i64 _] [_, _, _, _, _, _] (H' := [blkE _ _ [_, _, _, _, _, _], _, _]) (by kernel_rfl) rfl rfl (by kernel_rfl) rfl rfl (by kernel_rfl) rfl rfl <| la 1 ((9, .int .i64 _) :: _) rfl <| nn <| cm_ret <| xm_inR <| xm_thenR <| xm_nilrow 100 5 encApiItem ?_
    exact xm_retCT rfl (by kernel_rfl) (show _ = Value.pointer (some ⟨_, 0, none⟩) from rfl) (by kernel_rfl) (fun w1 c1 => c1.cells 1 (ds := [.int .i64 _, .int .i64 _, .int .i64 _, .int .i64 _, .slice _ _ _, .int .i64 _]) rfl rfl) (by kernel_rfl) (show _ = Value.int .i64 _ from rfl) fun w1 c1 => ⟨(none, 0, 0), rfl, hsub [0] (by kernel_rfl) rfl w1 c1⟩
   ·refine cm_seq <| cm_cutE [(40, .bool (((decide (p3.From < 0)) || (decide (p3.To < p3.From))) || (decide (36525 < p3.To))))] ?_ ?_
    ·refine q_ 41 (fun _ _ => oF 0 0 rfl) <| q_ 42 (fun _ c1 => oL (c1.cell 1 (u := .int .i64 _) rfl rfl)) <| qd 43 (fun _ _ => op_lss rfl rfl) (fun a5 => ?_) (fun a5 => ?_)
     ·refine qa 13 ((40, .bool true) :: (55, .bool true) :: (54, undef) :: (53, undef) :: (52, undef) :: (51, .bool true) :: (50, .bool true) :: (49, undef) :: (48, undef) :: (47, undef) :: (46, undef) :: (45, undef) :: (44, .bool true) :: _) rfl ?_
      exact leaf_q (sub_out 16 _ rfl (by kernel_rfl) ⟨(congrArg Value.bool (by rw [decide_eq_true a5] <;> rfl)), trivial⟩)
     ·refine qa 1 ((44, .bool false) :: _) rfl <| q_ 45 (fun _ _ => oF 0 0 rfl) <| q_ 46 (fun _ c1 => oL (c1.cell 1 (u := .int .i64 _) rfl rfl)) <| q_ 47 (fun _ _ => oF 1 1 rfl) <| q_ 48 (fun _ c1 => oL (c1.cell 1 (u := .int .i64 _) rfl rfl)) <| qd 49 (fun _ _ => op_gtr rfl rfl) (fun ab => ?_) (fun ab => ?_)
      ·refine qa 7 ((40, .bool true) :: (55, .bool true) :: (54, undef) :: (53, undef) :: (52, undef) :: (51, .bool true) :: (50, .bool true) :: _) rfl ?_
       exact leaf_q (sub_out 16 _ rfl (by kernel_rfl) ⟨(congrArg Value.bool (by rw [decide_eq_false a5, decide_eq_true ab] <;> rfl)), trivial⟩)
      ·refine qa 2 ((51, .bool false) :: (50, .bool false) :: _) rfl <| q_ 52 (fun _ _ => oF 1 1 rfl) <| q_ 53 (fun _ c1 => oL (c1.cell 1 (u := .int .i64 _) rfl rfl)) <| qa 3 ((40, .bool _) :: (55, .bool _) :: (54, .bool _) :: _) rfl ?_
       exact leaf_q (sub_out 16 _ rfl (by kernel_rfl) ⟨(congrArg Value.bool (by rw [decide_eq_false a5, decide_eq_false ab] <;> rfl)), trivial⟩)
    refine xm_next <| cm_condB (by kernel_rfl) rfl (fun al => ?_) (fun al => ?_)
    ·refine sr <| v_ 56 (fun _ _ => op_build (z := [.int .i64 0, .int .i64 0, .int .i64 0, .int .i64 0, .slice none 0 0, .int .i64 0]) (tab := [(0, 1), (1, 1), (2, 2), (4, 1), (5, 1)]) (cs := [.int .i64 _, .int .i64 _, .int .i64 _, .int .i64 _, .slice _ _ _, .int .i64 _]) [] (by kernel_rfl) (by kernel_rfl) fillOk_nil rfl) <| lm_storeA 0 [.int .i64 _, .int .i64 _, .int .i64 _, .int .i64 _, .slice _ _ _, .int .i64 _] [_, _, _, _, _, _] (H' := [blkE _ _ [_, _, _, _, _, _], _, _]) (by kernel_rfl) rfl rfl (by kernel_rfl) rfl rfl (by kernel_rfl) rfl rfl <| la 1 ((9, .int .i64 _) :: _) rfl <| nn <| cm_ret <| xm_inR <| xm_thenR <| xm_nilrow 100 5 encApiItem ?_
     exact xm_retCT rfl (by kernel_rfl) (show _ = Value.pointer (some ⟨_, 0, none⟩) from rfl) (by kernel_rfl) (fun w1 c1 => c1.cells 1 (ds := [.int .i64 _, .int .i64 _, .int .i64 _, .int .i64 _, .slice _ _ _, .int .i64 _]) rfl rfl) (by kernel_rfl) (show _ = Value.int .i64 _ from rfl) fun w1 c1 => ⟨(none, 0, 0), rfl, hsub [0] (by kernel_rfl) rfl w1 c1⟩
    ·refine cm_skip <| xm_inN <| xm_next <| sr <| v_ 58 (fun _ _ => oF 4 4 rfl) <| v_ 59 (fun _ c1 => oL (c1.cell 2 (u := .slice _ _ _) rfl rfl)) <| v_ 60 (fun _ c1 => oR [.int .i64 _, .int .i64 _] (c1.cells 1 rfl rfl)) <| lm_call 61 (V := (fun (r : (List ApiItem) × Int) (u : (Option Addr) × Nat × Nat) => .tuple #[.slice u.1 u.2.1 u.2.2, .int .i64 r.2])) (HR := (fun (r : (List ApiItem) × Int) (u : (Option Addr) × Nat × Nat) => [ownE 100 5 encApiItem u.1 u.2.1 u.2.2 r.1])) (by kernel_rfl) (fun w1 => op_call (by kernel_rfl)) (fun r1 hr1 w1 c1 => m_tariff_Base_ok N w1 p0.Tariffs p3 a g i (J.old c1) K r1 hr1) ?_
     intro a6 av
     refine la 5 ((12, .int .i64 _) :: (11, .slice _ _ _) :: (63, .int .i64 _) :: (62, .slice _ _ _) :: (57, .tuple _) :: _) rfl <| nn <| cm_seq <| sr <| la 2 ((65, .bool _) :: (64, .int .i64 _) :: _) rfl <| nn <| cm_cond (by kernel_rfl) rfl (fun am => ?_) (fun am => ?_)
     ·refine sr <| v_ 66 (fun _ _ => op_build (z := [.int .i64 0, .int .i64 0, .int .i64 0, .int .i64 0, .slice none 0 0, .int .i64 0]) (tab := [(0, 1), (1, 1), (2, 2), (4, 1), (5, 1)]) (cs := [.int .i64 _, .int .i64 _, .int .i64 _, .int .i64 _, .slice _ _ _, .int .i64 _]) [] (by kernel_rfl) (by kernel_rfl) fillOk_nil rfl) <| la 1 ((67, .int .i64 _) :: _) rfl <| lm_storeA 1 [.int .i64 _, .int .i64 _, .int .i64 _, .int .i64 _, .slice _ _ _, .int .i64 _] [_, _, _, _, _, _] (H' := [_, blkE _ _ [_, _, _, _, _, _], _, _]) (by kernel_rfl) rfl rfl (by kernel_rfl) rfl rfl (by kernel_rfl) rfl rfl <| la 1 ((9, .int .i64 _) :: _) rfl <| nn <| cm_ret <| xm_thenR <| xm_nilrow 100 5 encApiItem ?_
      exact xm_retCT rfl (by kernel_rfl) (show _ = Value.pointer (some ⟨_, 0, none⟩) from rfl) (by kernel_rfl) (fun w1 c1 => c1.cells 2 (ds := [.int .i64 _, .int .i64 _, .int .i64 _, .int .i64 _, .slice _ _ _, .int .i64 _]) rfl rfl) (by kernel_rfl) (show _ = Value.int .i64 _ from rfl) fun w1 c1 => ⟨(none, 0, 0), rfl, hsub [0] (by kernel_rfl) rfl w1 c1⟩
     ·refine sk <| sr <| v_ 69 (fun _ c1 => oR [.slice _ _ _, .slice _ _ _, .slice _ _ _, .slice _ _ _, .slice _ _ _, .int .i64 _] (c1.cells 3 rfl rfl)) <| la 1 ((70, .int .i64 _) :: _) rfl <| v_ 71 (fun _ c1 => oR [.int .i64 _, .int .i64 _] (c1.cells 2 rfl rfl)) <| lm_call 72 (V := (fun (r : (List ApiItem) × Int) (u : (Option Addr) × Nat × Nat) => .tuple #[.slice u.1 u.2.1 u.2.2, .int .i64 r.2])) (HR := (fun (r : (List ApiItem) × Int) (u : (Option Addr) × Nat × Nat) => [ownE 100 5 encApiItem u.1 u.2.1 u.2.2 r.1])) (by kernel_rfl) (fun w1 => op_call (by kernel_rfl)) (fun r1 hr1 w1 c1 => m_bill_emptyings_ok N w1 p0 p2 p3 b j l d m o e q t f y B a g i (U.old c1) G (X.old c1) Y (Z.old c1) a0 (a1.old c1) a2 (J.old c1) K r1 hr1) ?_
      intro L ac
      refine la 5 ((12, .int .i64 _) :: (13, .slice _ _ _) :: (74, .int .i64 _) :: (73, .slice _ _ _) :: (68, .tuple _) :: _) rfl <| nn <| cm_seq <| sr <| la 2 ((76, .bool _) :: (75, .int .i64 _) :: _) rfl <| nn <| cm_cond (by kernel_rfl) rfl (fun an => ?_) (fun an => ?_)
      ·refine sr <| v_ 77 (fun _ _ => op_build (z := [.int .i64 0, .int .i64 0, .int .i64 0, .int .i64 0, .slice none 0 0, .int .i64 0]) (tab := [(0, 1), (1, 1), (2, 2), (4, 1), (5, 1)]) (cs := [.int .i64 _, .int .i64 _, .int .i64 _, .int .i64 _, .slice _ _ _, .int .i64 _]) [] (by kernel_rfl) (by kernel_rfl) fillOk_nil rfl) <| la 1 ((78, .int .i64 _) :: _) rfl <| lm_storeA 2 [.int .i64 _, .int .i64 _, .int .i64 _, .int .i64 _, .slice _ _ _, .int .i64 _] [_, _, _, _, _, _] (H' := [_, _, blkE _ _ [_, _, _, _, _, _], _, _]) (by kernel_rfl) rfl rfl (by kernel_rfl) rfl rfl (by kernel_rfl) rfl rfl <| la 1 ((9, .int .i64 _) :: _) rfl <| nn <| cm_ret <| xm_thenR <| xm_nilrow 100 5 encApiItem ?_
       exact xm_retCT rfl (by kernel_rfl) (show _ = Value.pointer (some ⟨_, 0, none⟩) from rfl) (by kernel_rfl) (fun w1 c1 => c1.cells 3 (ds := [.int .i64 _, .int .i64 _, .int .i64 _, .int .i64 _, .slice _ _ _, .int .i64 _]) rfl rfl) (by kernel_rfl) (show _ = Value.int .i64 _ from rfl) fun w1 c1 => ⟨(none, 0, 0), rfl, hsub [0] (by kernel_rfl) rfl w1 c1⟩
      ·refine sk <| sr <| la 2 ((80, .slice _ _ _) :: (79, .slice _ _ _) :: _) rfl <| lm_ck (fun ao => ?_)
       refine lm_append 81 1 (el := 100) (sz := 5) (bytes := 40) (enc := encApiItem) (l2 := L.1) (by kernel_rfl) (by kernel_rfl) encApiItem_len encApiItem_one rfl rfl rfl (fun w1 c1 => (c1.ownZ 0 rfl)) (fun w1 c1 => (c1.own 0 rfl encApiItem_len)) ao ?_ (by kernel_rfl)
       intro M O Q
       refine la 1 ((11, .slice _ _ _) :: _) rfl <| nn <| cm_seq <| sr <| la 1 ((82, .slice _ _ _) :: _) rfl <| v_ 83 (fun _ c1 => op_lenN rfl (by kernel_rfl) (c1.ownZ 1 rfl).2.2) <| la 1 ((84, .bool _) :: _) rfl <| nn <| cm_cond (by kernel_rfl) rfl (fun ap => ?_) (fun ap => ?_)
       ·refine sr <| v_ 85 (fun _ _ => op_build (z := [.int .i64 0, .int .i64 0, .int .i64 0, .int .i64 0, .slice none 0 0, .int .i64 0]) (tab := [(0, 1), (1, 1), (2, 2), (4, 1), (5, 1)]) (cs := [.int .i64 _, .int .i64 _, .int .i64 _, .int .i64 _, .slice _ _ _, .int .i64 _]) [] (by kernel_rfl) (by kernel_rfl) fillOk_nil rfl) <| lm_storeA 2 [.int .i64 _, .int .i64 _, .int .i64 _, .int .i64 _, .slice _ _ _, .int .i64 _] [_, _, _, _, _, _] (H' := [_, _, blkE _ _ [_, _, _, _, _, _], _, _]) (by kernel_rfl) rfl rfl (by kernel_rfl) rfl rfl (by kernel_rfl) rfl rfl <| la 1 ((9, .int .i64 _) :: _) rfl <| nn <| cm_ret <| xm_thenR <| xm_nilrow 100 5 encApiItem ?_
        exact xm_retCT rfl (by kernel_rfl) (show _ = Value.pointer (some ⟨_, 0, none⟩) from rfl) (by kernel_rfl) (fun w1 c1 => c1.cells 3 (ds := [.int .i64 _, .int .i64 _, .int .i64 _, .int .i64 _, .slice _ _ _, .int .i64 _]) rfl rfl) (by kernel_rfl) (show _ = Value.int .i64 _ from rfl) fun w1 c1 => ⟨(none, 0, 0), rfl, hsub [0] (by kernel_rfl) rfl w1 c1⟩
       ·refine sk <| cm_seq <| cm_bind fun ad ae => cm_held (ξ := Nat) (fun a7 => [(8, .pointer (some ⟨b7, 0, none⟩)), (14, .pointer (some ⟨a7, 0, none⟩))]) (fun a7 => [blkE b7 52 [.int .i64 0, .int .i64 0, .int .i64 0, .int .i64 0, .slice none 0 0, .int .i64 0], blkE a7 52 [.int .i64 p1, .int .i64 p2, .int .i64 p3.From, .int .i64 p3.To, .slice M O Q, .int .i64 ad], ownE 100 5 encApiItem M O Q (a6.1 ++ L.1)]) [ownE 100 5 encApiItem ac.1 ac.2.1 ac.2.2 L.1, ownE 100 5 encApiItem M O Q (a6.1 ++ L.1), blkE b7 52 [.int .i64 0, .int .i64 0, .int .i64 0, .int .i64 0, .slice none 0 0, .int .i64 0], blkE b6 49 [.int .i64 p3.From, .int .i64 p3.To], blkE b5 28 [.slice b j l, .slice d m o, .slice e q t, .slice f y B, .slice a g i, .int .i64 p0.Gap]] 9 (by kernel_rfl) (by rfl) (hsub [0, 1, 2, 3, 4] (by kernel_rfl) (by rfl)) ?_ ?_
        ·intro aw C
         refine wh_take 0 86 rfl (by kernel_rfl) (by kernel_rfl) (fun w2 c2 => (op_move (v := .int .i64 _) rfl)) (hsub [0, 1, 2, 3, 4] (by kernel_rfl) rfl _ C) <| wh_take 1 87 rfl (by kernel_rfl) (by kernel_rfl) (fun w2 c2 => (op_move (v := .int .i64 _) rfl)) (hsub [0, 1, 2, 3, 4] (by kernel_rfl) rfl _ C) <| wh_take 2 88 rfl (by kernel_rfl) (by kernel_rfl) (fun w2 c2 => (op_loadR [.int .i64 _, .int .i64 _] rfl (by kernel_rfl) (c2.cells 3 rfl rfl))) (hsub [0, 1, 2, 3, 4] (by kernel_rfl) rfl _ C) <| wh_take 3 89 rfl (by kernel_rfl) (by kernel_rfl) (fun w2 c2 => (op_move (v := .slice _ _ _) rfl)) (hsub [0, 1, 2, 3, 4] (by kernel_rfl) rfl _ C) <| wh_take 4 90 rfl (by kernel_rfl) (by kernel_rfl) (fun w2 c2 => (op_move (v := .slice _ _ _) rfl)) (hsub [0, 1, 2, 3, 4] (by kernel_rfl) rfl _ C) <| wh_ready [5, 7] (by kernel_rfl) rfl ⟨?_, ?_, trivial⟩
         ·refine ws_call 91 rfl (by kernel_rfl) (op_call (by kernel_rfl)) (m_bill_sum_ok N _ (a6.1 ++ L.1) M O Q (C.own 1 rfl encApiItem_len) (C.ownZ 1 rfl) ad ae) ?_
          rintro x ax ⟨ay, rfl, a3⟩
          replace a3 := C.call a3
          refine ⟨_, rfl, (hsub [0, 1, 2, 3, 4] (by kernel_rfl) rfl _ a3), ?_⟩
          refine wh_take 6 92 rfl (by kernel_rfl) (by kernel_rfl) (fun w2 c2 => (op_build (z := [.int .i64 0, .int .i64 0, .int .i64 0, .int .i64 0, .slice none 0 0, .int .i64 0]) (tab := [(0, 1), (1, 1), (2, 2), (4, 1), (5, 1)]) (cs := [.int .i64 _, .int .i64 _, .int .i64 _, .int .i64 _, .slice _ _ _, .int .i64 _]) [(0, [.int .i64 _]), (1, [.int .i64 _]), (2, [.int .i64 _, .int .i64 _]), (4, [.slice _ _ _]), (5, [.int .i64 _])] (by kernel_rfl) (by kernel_rfl) (fillOk_cons rfl rfl rfl (fillOk_cons rfl rfl rfl (fillOk_cons rfl rfl rfl (fillOk_cons rfl rfl rfl (fillOk_cons rfl rfl rfl fillOk_nil))))) rfl)) (hsub [0, 1, 2, 3, 4] (by kernel_rfl) rfl _ a3) <| wh_ready [7] (by kernel_rfl) rfl ⟨?_, trivial⟩
          refine ws_alloc 14 [.int .i64 0, .int .i64 0, .int .i64 0, .int .i64 0, .slice none 0 0, .int .i64 0] (v := .agg #[.int .i64 0, .int .i64 0, .int .i64 0, .int .i64 0, .slice none 0 0, .int .i64 0]) rfl (by kernel_rfl) (by kernel_rfl) rfl a3 ?_
          intro aq az af
          refine ⟨(hsub [1, 2, 3, 4, 5] (by kernel_rfl) rfl _ af), ?_⟩
          refine wh_ready [8] (by kernel_rfl) rfl ⟨?_, trivial⟩
          refine ws_storeA 0 [.int .i64 _, .int .i64 _, .int .i64 _, .int .i64 _, .slice _ _ _, .int .i64 _] [_, _, _, _, _, _] rfl (by kernel_rfl) rfl rfl (by kernel_rfl) rfl rfl (by kernel_rfl) rfl (H' := [blkE _ _ [_, _, _, _, _, _], _, _, _, _, _]) rfl af ?_
          intro b0 ag
          refine ⟨(hsub [1, 2, 3, 4, 5] (by kernel_rfl) rfl _ ag), ?_⟩
          exact wh_done aq (by kernel_rfl) sq (hsub [3, 0, 2] (by kernel_rfl) rfl _ ag)
         ·refine ws_alloc 14 [.int .i64 0, .int .i64 0, .int .i64 0, .int .i64 0, .slice none 0 0, .int .i64 0] (v := .agg #[.int .i64 0, .int .i64 0, .int .i64 0, .int .i64 0, .slice none 0 0, .int .i64 0]) rfl (by kernel_rfl) (by kernel_rfl) rfl C ?_
          intro ar b1 a8
          refine ⟨(hsub [1, 2, 3, 4, 5] (by kernel_rfl) rfl _ a8), ?_⟩
          refine wh_ready [5] (by kernel_rfl) rfl ⟨?_, trivial⟩
          refine ws_call 91 rfl (by kernel_rfl) (op_call (by kernel_rfl)) (m_bill_sum_ok N _ (a6.1 ++ L.1) M O Q (a8.own 2 rfl encApiItem_len) (a8.ownZ 2 rfl) ad ae) ?_
          rintro x b2 ⟨b3, rfl, a4⟩
          replace a4 := a8.call a4
          refine ⟨_, rfl, (hsub [1, 2, 3, 4, 5] (by kernel_rfl) rfl _ a4), ?_⟩
          refine wh_take 6 92 rfl (by kernel_rfl) (by kernel_rfl) (fun w2 c2 => (op_build (z := [.int .i64 0, .int .i64 0, .int .i64 0, .int .i64 0, .slice none 0 0, .int .i64 0]) (tab := [(0, 1), (1, 1), (2, 2), (4, 1), (5, 1)]) (cs := [.int .i64 _, .int .i64 _, .int .i64 _, .int .i64 _, .slice _ _ _, .int .i64 _]) [(0, [.int .i64 _]), (1, [.int .i64 _]), (2, [.int .i64 _, .int .i64 _]), (4, [.slice _ _ _]), (5, [.int .i64 _])] (by kernel_rfl) (by kernel_rfl) (fillOk_cons rfl rfl rfl (fillOk_cons rfl rfl rfl (fillOk_cons rfl rfl rfl (fillOk_cons rfl rfl rfl (fillOk_cons rfl rfl rfl fillOk_nil))))) rfl)) (hsub [1, 2, 3, 4, 5] (by kernel_rfl) rfl _ a4) <| wh_ready [8] (by kernel_rfl) rfl ⟨?_, trivial⟩
          refine ws_storeA 0 [.int .i64 _, .int .i64 _, .int .i64 _, .int .i64 _, .slice _ _ _, .int .i64 _] [_, _, _, _, _, _] rfl (by kernel_rfl) rfl rfl (by kernel_rfl) rfl rfl (by kernel_rfl) rfl (H' := [blkE _ _ [_, _, _, _, _, _], _, _, _, _, _]) rfl a4 ?_
          intro b4 ah
          refine ⟨(hsub [1, 2, 3, 4, 5] (by kernel_rfl) rfl _ ah), ?_⟩
          exact wh_done ar (by kernel_rfl) sq (hsub [3, 0, 2] (by kernel_rfl) rfl _ ah)
        intro a7
        refine xm_next <| cm_seq <| sr <| v_ 93 (fun _ _ => oF 5 5 rfl) <| v_ 94 (fun _ c1 => oL (c1.cell 1 (u := .int .i64 _) rfl rfl)) <| la 1 ((95, .bool _) :: _) rfl <| nn <| cm_cond (by kernel_rfl) rfl (fun au => ?_) (fun au => ?_)
        ·refine sr <| v_ 96 (fun _ _ => op_build (z := [.int .i64 0, .int .i64 0, .int .i64 0, .int .i64 0, .slice none 0 0, .int .i64 0]) (tab := [(0, 1), (1, 1), (2, 2), (4, 1), (5, 1)]) (cs := [.int .i64 _, .int .i64 _, .int .i64 _, .int .i64 _, .slice _ _ _, .int .i64 _]) [] (by kernel_rfl) (by kernel_rfl) fillOk_nil rfl) <| lm_storeA 0 [.int .i64 _, .int .i64 _, .int .i64 _, .int .i64 _, .slice _ _ _, .int .i64 _] [_, _, _, _, _, _] (H' := [blkE _ _ [_, _, _, _, _, _], _, _]) (by kernel_rfl) rfl rfl (by kernel_rfl) rfl rfl (by kernel_rfl) rfl rfl <| la 1 ((9, .int .i64 _) :: _) rfl <| nn <| cm_ret <| xm_thenR <| xm_nilrow 100 5 encApiItem ?_
         exact xm_retCT rfl (by kernel_rfl) (show _ = Value.pointer (some ⟨_, 0, none⟩) from rfl) (by kernel_rfl) (fun w1 c1 => c1.cells 1 (ds := [.int .i64 _, .int .i64 _, .int .i64 _, .int .i64 _, .slice _ _ _, .int .i64 _]) rfl rfl) (by kernel_rfl) (show _ = Value.int .i64 _ from rfl) fun w1 c1 => ⟨(none, 0, 0), rfl, hsub [0] (by kernel_rfl) rfl w1 c1⟩
        ·refine sk <| sr <| v_ 97 (fun _ c1 => oR [.int .i64 _, .int .i64 _, .int .i64 _, .int .i64 _, .slice _ _ _, .int .i64 _] (c1.cells 1 rfl rfl)) <| lm_storeA 0 [.int .i64 _, .int .i64 _, .int .i64 _, .int .i64 _, .slice _ _ _, .int .i64 _] [_, _, _, _, _, _] (H' := [blkE _ _ [_, _, _, _, _, _], _, _]) (by kernel_rfl) rfl rfl (by kernel_rfl) rfl rfl (by kernel_rfl) rfl rfl <| la 1 ((9, .int .i64 _) :: _) rfl <| nn <| cm_ret ?_
         exact xm_retCT rfl (by kernel_rfl) (show _ = Value.pointer (some ⟨_, 0, none⟩) from rfl) (by kernel_rfl) (fun w1 c1 => c1.cells 0 (ds := [.int .i64 _, .int .i64 _, .int .i64 _, .int .i64 _, .slice _ _ _, .int .i64 _]) rfl rfl) (by kernel_rfl) (show _ = Value.int .i64 _ from rfl) fun w1 c1 => ⟨(M, O, Q), rfl, hsub [2] (by kernel_rfl) rfl w1 c1⟩
end Go.Proofs.YtbnimhmoffchdaaGreatDoor
