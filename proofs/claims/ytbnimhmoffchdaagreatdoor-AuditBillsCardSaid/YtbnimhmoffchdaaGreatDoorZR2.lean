/- Models of functions, and that the code follows them. Written by deco.py. -/
import Derived.Test.YtbnimhmoffchdaaGreatDoorZR1
namespace Go.Proofs.YtbnimhmoffchdaaGreatDoor
open Go.RowKit
set_option linter.unusedSectionVars false
variable [JF]

/-- recyclingref18.ordered -/
def m_recyclingref18_ordered (N : Nat) (p0 : (List ApiEmptying)) : Option ((List Int)) :=
 (andThen
  (loopM (fun (a : (List Int) × Int) =>
   (if a.2 < (List.length p0 : Int) then
    (andThen
     (loopM (fun (b : Int) =>
      ck (decide (0 < b) = true → (0 : Int) ≤ a.2 ∧ a.2 < (List.length p0 : Int)) (
       ck (decide (0 < b) = true → I64 (b - (1 : Int))) (
        ck (decide (0 < b) = true → (0 : Int) ≤ (b - (1 : Int)) ∧ (b - (1 : Int)) < (List.length a.1 : Int)) (
         ck (decide (0 < b) = true → (0 : Int) ≤ (ix a.1 (b - (1 : Int))) ∧ (ix a.1 (b - (1 : Int))) < (List.length p0 : Int)) (
          ck (((decide (0 < b)) && (!(decide ((ix p0 a.2).At < (ix p0 (ix a.1 (b - (1 : Int)))).At)))) = true → (0 : Int) ≤ a.2 ∧ a.2 < (List.length p0 : Int)) (
           ck (((decide (0 < b)) && (!(decide ((ix p0 a.2).At < (ix p0 (ix a.1 (b - (1 : Int)))).At)))) = true → I64 (b - (1 : Int))) (
            ck (((decide (0 < b)) && (!(decide ((ix p0 a.2).At < (ix p0 (ix a.1 (b - (1 : Int)))).At)))) = true → (0 : Int) ≤ (b - (1 : Int)) ∧ (b - (1 : Int)) < (List.length a.1 : Int)) (
             ck (((decide (0 < b)) && (!(decide ((ix p0 a.2).At < (ix p0 (ix a.1 (b - (1 : Int)))).At)))) = true → (0 : Int) ≤ (ix a.1 (b - (1 : Int))) ∧ (ix a.1 (b - (1 : Int))) < (List.length p0 : Int)) (
              ck ((((decide (0 < b)) && (!(decide ((ix p0 a.2).At < (ix p0 (ix a.1 (b - (1 : Int)))).At)))) && (decide ((ix p0 a.2).At = (ix p0 (ix a.1 (b - (1 : Int)))).At))) = true → (0 : Int) ≤ a.2 ∧ a.2 < (List.length p0 : Int)) (
               ck ((((decide (0 < b)) && (!(decide ((ix p0 a.2).At < (ix p0 (ix a.1 (b - (1 : Int)))).At)))) && (decide ((ix p0 a.2).At = (ix p0 (ix a.1 (b - (1 : Int)))).At))) = true → I64 (b - (1 : Int))) (
                ck ((((decide (0 < b)) && (!(decide ((ix p0 a.2).At < (ix p0 (ix a.1 (b - (1 : Int)))).At)))) && (decide ((ix p0 a.2).At = (ix p0 (ix a.1 (b - (1 : Int)))).At))) = true → (0 : Int) ≤ (b - (1 : Int)) ∧ (b - (1 : Int)) < (List.length a.1 : Int)) (
                 ck ((((decide (0 < b)) && (!(decide ((ix p0 a.2).At < (ix p0 (ix a.1 (b - (1 : Int)))).At)))) && (decide ((ix p0 a.2).At = (ix p0 (ix a.1 (b - (1 : Int)))).At))) = true → (0 : Int) ≤ (ix a.1 (b - (1 : Int))) ∧ (ix a.1 (b - (1 : Int))) < (List.length p0 : Int)) (
                  (if ((decide (0 < b)) && ((decide ((ix p0 a.2).At < (ix p0 (ix a.1 (b - (1 : Int)))).At)) || ((decide ((ix p0 a.2).At = (ix p0 (ix a.1 (b - (1 : Int)))).At)) && (decide ((ix p0 a.2).ID < (ix p0 (ix a.1 (b - (1 : Int)))).ID))))) = true then
                   ck (I64 (b - (1 : Int))) (
                    some (.next (b - (1 : Int))))
                  else
                   some (.done (.next b)))))))))))))))) N (List.length a.1 : Int))
    fun (d : Int) =>
     ck ((0 : Int) ≤ d ∧ d ≤ (List.length a.1 : Int)) (
      ck ((List.length ([] : List Int) + List.length (List.drop (Int.toNat d) a.1)) * 8 ≤ 140737488355328) (
       ck ((0 : Int) ≤ d ∧ d ≤ (List.length a.1 : Int)) (
        ck (0 < List.length ([a.2])) (
         ck ((List.length (List.take (Int.toNat d) a.1) + List.length ([a.2])) * 8 ≤ 140737488355328) (
          ck ((List.length ((List.take (Int.toNat d) a.1) ++ ([a.2])) + List.length (([] : List Int) ++ (List.drop (Int.toNat d) a.1))) * 8 ≤ 140737488355328) (
           ck (I64 (a.2 + (1 : Int))) (
            some (.next ((((List.take (Int.toNat d) a.1) ++ ([a.2])) ++ (([] : List Int) ++ (List.drop (Int.toNat d) a.1))), (a.2 + (1 : Int))))))))))))
   else
    some (.done (.next a.1)))) N (([] : List Int), (0 : Int)))
 fun (e : (List Int)) =>
  some (e))
set_option maxHeartbeats 2000000 in
set_option maxRecDepth 20000 in
theorem m_recyclingref18_ordered_ok (N : Nat) (w0 : World) (p0 : (List ApiEmptying)) (t : Option Addr) (B : Nat) (C : Nat) (g : RdE w0 7 encApiEmptying t p0) (q : SW t B C (List.length p0)) (r : (List Int)) (hr : m_recyclingref18_ordered N p0 = some r) :
  Ret Tryz.prog 164 [.slice t B C] w0 (fun (_r : (List Int)) (u : (Option Addr) × Nat × Nat) => .slice u.1 u.2.1 u.2.2) (fun (r : (List Int)) (u : (Option Addr) × Nat × Nat) => [ownE 3 1 encI u.1 u.2.1 u.2.2 r]) r := by
 refine calls_v (n := 86) r hr Tryz.func164 ?_
 unfold m_recyclingref18_ordered
 refine sr <| la 1 ((2, .slice _ _ _) :: _) rfl <| nn <| sr <| lm_slice0 7 (el := 3) (sz := 1) (bytes := 8) (enc := encI) (by kernel_rfl) (by kernel_rfl) ?_
 intro A5 n6 k7 h8
 refine la 1 ((3, .slice _ _ _) :: _) rfl <| nn <| cm_join (σ := (List Int)) (ξ := (Option Addr) × Nat × Nat) (fun X o => [(3, .slice o.1 o.2.1 o.2.2)]) (fun X o => [ownE 3 1 encI o.1 o.2.1 o.2.2 X]) ?_ ?_
 ·refine sr <| la 1 ((4, .int .i64 _) :: _) rfl <| nn <| cm_block <| cm_loop (σ := (List Int) × Int) (ξ := (Option Addr) × Nat × Nat) (fun d e => [(0, .slice t B C), (3, .slice e.1 e.2.1 e.2.2), (4, .int .i64 d.2)]) (fun d e => [ownE 3 1 encI e.1 e.2.1 e.2.2 d.1]) (A5, n6, k7) ?_ ?_ ?_
  ·exact sq
  ·exact sh [0]
  intro d e
  refine cm_seq <| sr <| la 2 ((9, .slice _ _ _) :: (8, .int .i64 _) :: _) rfl <| v_ 10 (fun _ _ => op_lenN rfl (by kernel_rfl) q.2.2) <| la 1 ((11, .bool _) :: _) rfl <| nn <| cm_cond (by kernel_rfl) rfl (fun a0 => ?_) (fun a0 => ?_)
  ·refine sk <| cm_seq <| cm_block <| sr <| la 1 ((14, .slice _ _ _) :: _) rfl <| v_ 15 (fun _ c1 => op_lenN rfl (by kernel_rfl) (c1.ownZ 0 rfl).2.2) <| la 1 ((5, .int .i64 _) :: _) rfl <| nn <| cm_join (σ := Int) (ξ := Unit) (fun x Y => [(0, .slice t B C), (3, .slice e.1 e.2.1 e.2.2), (4, .int .i64 d.2), (5, .int .i64 x)]) (fun x Y => [ownE 3 1 encI e.1 e.2.1 e.2.2 d.1]) ?_ ?_
   ·refine cm_block <| cm_loop (σ := Int) (ξ := Unit) (fun i Z => [(0, .slice t B C), (3, .slice e.1 e.2.1 e.2.2), (4, .int .i64 d.2), (5, .int .i64 i)]) (fun i Z => [ownE 3 1 encI e.1 e.2.1 e.2.2 d.1]) () ?_ ?_ ?_
    ·exact sq
    ·exact sh [0]
    intro i Z
    refine cm_seq <| cm_seq <| cm_ck (fun G => ?_)
    refine cm_ck (fun a1 => ?_)
    refine cm_ck (fun J => ?_)
    refine cm_ck (fun K => ?_)
    refine cm_ck (fun L => ?_)
    refine cm_ck (fun a2 => ?_)
    refine cm_ck (fun M => ?_)
    refine cm_ck (fun O => ?_)
    refine cm_ck (fun Q => ?_)
    refine cm_ck (fun a3 => ?_)
    refine cm_ck (fun U => ?_)
    refine cm_ck (fun V => ?_)
    refine cm_drawn [(68, .bool ((decide (0 < i)) && ((decide ((ix p0 d.2).At < (ix p0 (ix d.1 (i - (1 : Int)))).At)) || ((decide ((ix p0 d.2).At = (ix p0 (ix d.1 (i - (1 : Int)))).At)) && (decide ((ix p0 d.2).ID < (ix p0 (ix d.1 (i - (1 : Int)))).ID))))))] (by kernel_rfl) (by kernel_rfl) ?_ ?_
    ·refine qa 1 ((16, .int .i64 _) :: _) rfl <| qd 17 (fun _ _ => op_gtr rfl rfl) (fun a => ?_) (fun a => ?_)
     ·refine qa 3 ((20, .int .i64 _) :: (19, .slice _ _ _) :: (18, .bool true) :: _) rfl <| q_ 21 (fun _ c1 => oI 7 rfl rfl ((g.old c1).addr (G (by rw [decide_eq_true a] <;> rfl)).1 (G (by rw [decide_eq_true a] <;> rfl)).2) q.2.2 (G (by rw [decide_eq_true a] <;> rfl))) <| q_ 22 (fun _ _ => op_field (m := 3) rfl (by kernel_rfl)) <| q_ 23 (fun _ c1 => oL (v := .int .i64 ((ix p0 d.2).At)) ((g.old c1).cell (j := 3) (G (by rw [decide_eq_true a] <;> rfl)).1 (G (by rw [decide_eq_true a] <;> rfl)).2 rfl)) <| qa 3 ((26, .int .i64 _) :: (25, .slice _ _ _) :: (24, .slice _ _ _) :: _) rfl <| q_ 27 (fun _ _ => op_sub rfl rfl (a1 (by rw [decide_eq_true a] <;> rfl))) <| q_ 28 (fun _ c1 => oI 1 rfl rfl ((c1.own 0 rfl encI_len).addr (J (by rw [decide_eq_true a] <;> rfl)).1 (J (by rw [decide_eq_true a] <;> rfl)).2) (c1.ownZ 0 rfl).2.2 (J (by rw [decide_eq_true a] <;> rfl))) <| q_ 29 (fun _ c1 => oL (v := .int .i64 (ix d.1 (i - (1 : Int)))) ((c1.own 0 rfl encI_len).cell0 (J (by rw [decide_eq_true a] <;> rfl)).1 (J (by rw [decide_eq_true a] <;> rfl)).2 rfl)) <| q_ 30 (fun _ c1 => oI 7 rfl rfl ((g.old c1).addr (K (by rw [decide_eq_true a] <;> rfl)).1 (K (by rw [decide_eq_true a] <;> rfl)).2) q.2.2 (K (by rw [decide_eq_true a] <;> rfl))) <| q_ 31 (fun _ _ => op_field (m := 3) rfl (by kernel_rfl)) <| q_ 32 (fun _ c1 => oL (v := .int .i64 ((ix p0 (ix d.1 (i - (1 : Int)))).At)) ((g.old c1).cell (j := 3) (K (by rw [decide_eq_true a] <;> rfl)).1 (K (by rw [decide_eq_true a] <;> rfl)).2 rfl)) <| qd 33 (fun _ _ => op_lss rfl rfl) (fun b => ?_) (fun b => ?_)
      ·refine qa 35 ((68, .bool true) :: (67, .bool true) :: (66, undef) :: (65, undef) :: (64, undef) :: (63, undef) :: (62, undef) :: (61, undef) :: (60, undef) :: (59, undef) :: (58, undef) :: (57, undef) :: (56, undef) :: (55, undef) :: (54, undef) :: (53, undef) :: (52, undef) :: (51, undef) :: (50, undef) :: (49, undef) :: (48, undef) :: (47, undef) :: (46, undef) :: (45, undef) :: (44, undef) :: (43, undef) :: (42, undef) :: (41, undef) :: (40, undef) :: (39, undef) :: (38, undef) :: (37, undef) :: (36, undef) :: (35, undef) :: (34, .bool true) :: _) rfl ?_
       exact leaf_q (sub_out 53 _ rfl (by kernel_rfl) ⟨(congrArg Value.bool (by rw [decide_eq_true a, decide_eq_true b] <;> rfl)), trivial⟩)
      ·refine qa 3 ((36, .int .i64 _) :: (35, .slice _ _ _) :: (34, .bool false) :: _) rfl <| q_ 37 (fun _ c1 => oI 7 rfl rfl ((g.old c1).addr (L (by rw [decide_eq_true a, decide_eq_false b] <;> rfl)).1 (L (by rw [decide_eq_true a, decide_eq_false b] <;> rfl)).2) q.2.2 (L (by rw [decide_eq_true a, decide_eq_false b] <;> rfl))) <| q_ 38 (fun _ _ => op_field (m := 3) rfl (by kernel_rfl)) <| q_ 39 (fun _ c1 => oL (v := .int .i64 ((ix p0 d.2).At)) ((g.old c1).cell (j := 3) (L (by rw [decide_eq_true a, decide_eq_false b] <;> rfl)).1 (L (by rw [decide_eq_true a, decide_eq_false b] <;> rfl)).2 rfl)) <| qa 3 ((42, .int .i64 _) :: (41, .slice _ _ _) :: (40, .slice _ _ _) :: _) rfl <| q_ 43 (fun _ _ => op_sub rfl rfl (a2 (by rw [decide_eq_true a, decide_eq_false b] <;> rfl))) <| q_ 44 (fun _ c1 => oI 1 rfl rfl ((c1.own 0 rfl encI_len).addr (M (by rw [decide_eq_true a, decide_eq_false b] <;> rfl)).1 (M (by rw [decide_eq_true a, decide_eq_false b] <;> rfl)).2) (c1.ownZ 0 rfl).2.2 (M (by rw [decide_eq_true a, decide_eq_false b] <;> rfl))) <| q_ 45 (fun _ c1 => oL (v := .int .i64 (ix d.1 (i - (1 : Int)))) ((c1.own 0 rfl encI_len).cell0 (M (by rw [decide_eq_true a, decide_eq_false b] <;> rfl)).1 (M (by rw [decide_eq_true a, decide_eq_false b] <;> rfl)).2 rfl)) <| q_ 46 (fun _ c1 => oI 7 rfl rfl ((g.old c1).addr (O (by rw [decide_eq_true a, decide_eq_false b] <;> rfl)).1 (O (by rw [decide_eq_true a, decide_eq_false b] <;> rfl)).2) q.2.2 (O (by rw [decide_eq_true a, decide_eq_false b] <;> rfl))) <| q_ 47 (fun _ _ => op_field (m := 3) rfl (by kernel_rfl)) <| q_ 48 (fun _ c1 => oL (v := .int .i64 ((ix p0 (ix d.1 (i - (1 : Int)))).At)) ((g.old c1).cell (j := 3) (O (by rw [decide_eq_true a, decide_eq_false b] <;> rfl)).1 (O (by rw [decide_eq_true a, decide_eq_false b] <;> rfl)).2 rfl)) <| qd 49 (fun _ _ => op_eql rfl rfl) (fun f => ?_) (fun f => ?_)
       ·refine qa 3 ((52, .int .i64 _) :: (51, .slice _ _ _) :: (50, .bool true) :: _) rfl <| q_ 53 (fun _ c1 => oI 7 rfl rfl ((g.old c1).addr (Q (by rw [decide_eq_true a, decide_eq_false b, decide_eq_true f] <;> rfl)).1 (Q (by rw [decide_eq_true a, decide_eq_false b, decide_eq_true f] <;> rfl)).2) q.2.2 (Q (by rw [decide_eq_true a, decide_eq_false b, decide_eq_true f] <;> rfl))) <| q_ 54 (fun _ _ => op_field0 rfl (by kernel_rfl)) <| q_ 55 (fun _ c1 => oL (v := .int .i64 ((ix p0 d.2).ID)) ((g.old c1).cell0 (Q (by rw [decide_eq_true a, decide_eq_false b, decide_eq_true f] <;> rfl)).1 (Q (by rw [decide_eq_true a, decide_eq_false b, decide_eq_true f] <;> rfl)).2 rfl)) <| qa 3 ((58, .int .i64 _) :: (57, .slice _ _ _) :: (56, .slice _ _ _) :: _) rfl <| q_ 59 (fun _ _ => op_sub rfl rfl (a3 (by rw [decide_eq_true a, decide_eq_false b, decide_eq_true f] <;> rfl))) <| q_ 60 (fun _ c1 => oI 1 rfl rfl ((c1.own 0 rfl encI_len).addr (U (by rw [decide_eq_true a, decide_eq_false b, decide_eq_true f] <;> rfl)).1 (U (by rw [decide_eq_true a, decide_eq_false b, decide_eq_true f] <;> rfl)).2) (c1.ownZ 0 rfl).2.2 (U (by rw [decide_eq_true a, decide_eq_false b, decide_eq_true f] <;> rfl))) <| q_ 61 (fun _ c1 => oL (v := .int .i64 (ix d.1 (i - (1 : Int)))) ((c1.own 0 rfl encI_len).cell0 (U (by rw [decide_eq_true a, decide_eq_false b, decide_eq_true f] <;> rfl)).1 (U (by rw [decide_eq_true a, decide_eq_false b, decide_eq_true f] <;> rfl)).2 rfl)) <| q_ 62 (fun _ c1 => oI 7 rfl rfl ((g.old c1).addr (V (by rw [decide_eq_true a, decide_eq_false b, decide_eq_true f] <;> rfl)).1 (V (by rw [decide_eq_true a, decide_eq_false b, decide_eq_true f] <;> rfl)).2) q.2.2 (V (by rw [decide_eq_true a, decide_eq_false b, decide_eq_true f] <;> rfl))) <| q_ 63 (fun _ _ => op_field0 rfl (by kernel_rfl)) <| q_ 64 (fun _ c1 => oL (v := .int .i64 ((ix p0 (ix d.1 (i - (1 : Int)))).ID)) ((g.old c1).cell0 (V (by rw [decide_eq_true a, decide_eq_false b, decide_eq_true f] <;> rfl)).1 (V (by rw [decide_eq_true a, decide_eq_false b, decide_eq_true f] <;> rfl)).2 rfl)) <| qa 4 ((68, .bool _) :: (67, .bool _) :: (66, .bool _) :: (65, .bool _) :: _) rfl ?_
        exact leaf_q (sub_out 53 _ rfl (by kernel_rfl) ⟨(congrArg Value.bool (by rw [decide_eq_true a, decide_eq_false b, decide_eq_true f] <;> rfl)), trivial⟩)
       ·refine qa 19 ((68, .bool false) :: (67, .bool false) :: (66, .bool false) :: (65, undef) :: (64, undef) :: (63, undef) :: (62, undef) :: (61, undef) :: (60, undef) :: (59, undef) :: (58, undef) :: (57, undef) :: (56, undef) :: (55, undef) :: (54, undef) :: (53, undef) :: (52, undef) :: (51, undef) :: (50, .bool false) :: _) rfl ?_
        exact leaf_q (sub_out 53 _ rfl (by kernel_rfl) ⟨(congrArg Value.bool (by rw [decide_eq_true a, decide_eq_false b, decide_eq_false f] <;> rfl)), trivial⟩)
     ·refine qa 51 ((68, .bool false) :: (67, undef) :: (66, undef) :: (65, undef) :: (64, undef) :: (63, undef) :: (62, undef) :: (61, undef) :: (60, undef) :: (59, undef) :: (58, undef) :: (57, undef) :: (56, undef) :: (55, undef) :: (54, undef) :: (53, undef) :: (52, undef) :: (51, undef) :: (50, undef) :: (49, undef) :: (48, undef) :: (47, undef) :: (46, undef) :: (45, undef) :: (44, undef) :: (43, undef) :: (42, undef) :: (41, undef) :: (40, undef) :: (39, undef) :: (38, undef) :: (37, undef) :: (36, undef) :: (35, undef) :: (34, undef) :: (33, undef) :: (32, undef) :: (31, undef) :: (30, undef) :: (29, undef) :: (28, undef) :: (27, undef) :: (26, undef) :: (25, undef) :: (24, undef) :: (23, undef) :: (22, undef) :: (21, undef) :: (20, undef) :: (19, undef) :: (18, .bool false) :: _) rfl ?_
      exact leaf_q (sub_out 53 _ rfl (by kernel_rfl) ⟨(congrArg Value.bool (by rw [decide_eq_false a] <;> rfl)), trivial⟩)
    refine xm_next <| cm_condB (by kernel_rfl) rfl (fun a4 => ?_) (fun a4 => ?_)
    ·refine sk <| cm_block <| cm_region <| la 1 ((69, .int .i64 _) :: _) rfl <| lm_ck (fun a5 => ?_)
     refine v_ 70 (fun _ _ => op_sub rfl rfl a5) <| la 1 ((5, .int .i64 _) :: _) rfl <| lm_nil <| xm_inN ?_
     exact xm_lnext () sq (sh [0])
    ·refine cm_exit <| xm_thenE <| xm_lexit <| xm_here ?_
     exact xm_lnext () sq (sh [0])
   intro x Y
   refine sr <| lm_slice0 71 (el := 3) (sz := 1) (bytes := 8) (enc := encI) (by kernel_rfl) (by kernel_rfl) ?_
   intro ae af ag ah
   refine la 2 ((73, .int .i64 _) :: (72, .slice _ _ _) :: _) rfl <| lm_ck (fun y => ?_)
   refine v_ 74 (fun _ c1 => op_sliceFrom (l := d.1) 1 rfl rfl (by kernel_rfl) (by kernel_rfl) (c1.ownZ 1 rfl) y.1 y.2) <| lm_ck (fun a6 => ?_)
   refine lm_append 75 0 (el := 3) (sz := 1) (bytes := 8) (enc := encI) (l2 := (List.drop (Int.toNat x) d.1)) (by kernel_rfl) (by kernel_rfl) encI_len encI_one rfl rfl rfl (fun w1 c1 => ((c1.ownZ 1 rfl).drop (sz := 1) y.1 y.2)) (fun w1 c1 => ((c1.own 1 rfl encI_len).drop (c1.ownZ 1 rfl) y.1 y.2)) a6 ?_ (by kernel_rfl)
   intro ai aj ak
   refine la 1 ((6, .slice _ _ _) :: _) rfl <| nn <| cm_region <| la 3 ((78, .int .i64 _) :: (77, .int .i64 _) :: (76, .slice _ _ _) :: _) rfl <| lm_ck (fun z => ?_)
   refine v_ 79 (fun _ c1 => op_slice3 (l := d.1) rfl rfl rfl (by kernel_rfl) (by kernel_rfl) ((c1.own 1 rfl encI_len).some_ (c1.ownZ 1 rfl)) (c1.ownZ 1 rfl) z.1 z.2) <| la 1 ((80, .int .i64 _) :: _) rfl <| lm_slice1 81 (el := 3) (sz := 1) (bytes := 8) (enc := encI) d.2 (by kernel_rfl) (by kernel_rfl) encI_len rfl (by kernel_rfl) ?_
   intro al am an ao
   refine lm_ck (fun a7 => ?_)
   refine lm_ck (fun a8 => ?_)
   refine lm_appendF 82 (el := 3) (sz := 1) (bytes := 8) (enc := encI) (l := (List.take (Int.toNat x) d.1)) (l2 := ([d.2])) (by kernel_rfl) (by kernel_rfl) encI_len rfl (fun w1 c1 => ((c1.ownZ 2 rfl).take3 z.1 z.2)) (fun w1 c1 => ((c1.own 2 rfl encI_len).take3 z.1 z.2)) rfl (fun w1 c1 => (c1.ownZ 0 rfl)) (fun w1 c1 => (c1.own 0 rfl encI_len)) a7 a8 (by kernel_rfl) ?_
   intro ap aq ar
   refine la 1 ((83, .slice _ _ _) :: _) rfl <| lm_ck (fun a9 => ?_)
   refine lm_append 84 0 (el := 3) (sz := 1) (bytes := 8) (enc := encI) (l2 := (([] : List Int) ++ (List.drop (Int.toNat x) d.1))) (by kernel_rfl) (by kernel_rfl) encI_len encI_one rfl rfl rfl (fun w1 c1 => (c1.ownZ 2 rfl)) (fun w1 c1 => (c1.own 2 rfl encI_len)) a9 ?_ (by kernel_rfl)
   intro aa ab ac
   refine la 1 ((3, .slice _ _ _) :: _) rfl <| lm_nil <| xm_inN <| xm_next <| cm_region <| la 1 ((12, .int .i64 _) :: _) rfl <| lm_ck (fun ad => ?_)
   refine v_ 13 (fun _ _ => op_add rfl rfl ad) <| la 1 ((4, .int .i64 _) :: _) rfl <| lm_nil ?_
   exact xm_lnext (aa, ab, ac) sq (sh [0])
  ·refine cm_exit <| xm_thenE <| xm_lexit <| xm_here ?_
   exact xm_lnext (e.1, e.2.1, e.2.2) sq (sh [0])
 intro X o
 refine sr <| la 2 ((2, .slice _ _ _) :: (85, .slice _ _ _) :: _) rfl <| nn <| cm_ret ?_
 exact xm_retT rfl (by kernel_rfl) (show _ = Value.slice _ _ _ from rfl) fun w1 c1 => ⟨(o.1, o.2.1, o.2.2), rfl, hsub [0] (by kernel_rfl) rfl w1 c1⟩
/-- recyclingref18.counting -/
def m_recyclingref18_counting (N : Nat) (p0 : (List ApiEmptying)) (p1 : Int) : Option ((List Int)) :=
 Option.bind (m_recyclingref18_ordered N p0) fun r5 => (andThen
  (loopM (fun (a : (List Int) × Int) =>
   (if a.2 < (List.length r5 : Int) then
    (andThen
     (ck ((0 : Int) ≤ a.2 ∧ a.2 < (List.length r5 : Int)) (
      ck ((0 : Int) ≤ (ix r5 a.2) ∧ (ix r5 a.2) < (List.length p0 : Int)) (
       (andThen
        (loopM (fun (b : Bool × Int) =>
         (if b.2 < (List.length a.1 : Int) then
          ck ((0 : Int) ≤ b.2 ∧ b.2 < (List.length a.1 : Int)) (
           ck ((0 : Int) ≤ (ix a.1 b.2) ∧ (ix a.1 b.2) < (List.length p0 : Int)) (
            ck ((b.1 && (!(decide ((ix p0 (ix a.1 b.2)).Container ≠ (ix p0 (ix r5 a.2)).Container)))) = true → I64 (((ix p0 (ix r5 a.2)).At) - ((ix p0 (ix a.1 b.2)).At))) (
             ck (I64 (b.2 + (1 : Int))) (
              some (.next ((b.1 && ((decide ((ix p0 (ix a.1 b.2)).Container ≠ (ix p0 (ix r5 a.2)).Container)) || (decide (p1 < (((ix p0 (ix r5 a.2)).At) - ((ix p0 (ix a.1 b.2)).At)))))), (b.2 + (1 : Int))))))))
         else
          some (.done (.next b.1)))) N ((!((ix p0 (ix r5 a.2)).Void)), (0 : Int)))
       fun (d : Bool) =>
        (if d = true then
         ck ((0 : Int) ≤ a.2 ∧ a.2 < (List.length r5 : Int)) (
          ck ((List.length a.1 + List.length ([(ix r5 a.2)])) * 8 ≤ 140737488355328) (
           some (.next (a.1 ++ ([(ix r5 a.2)])))))
        else
         some (.next a.1))))))
    fun (e : (List Int)) =>
     ck (I64 (a.2 + (1 : Int))) (
      some (.next (e, (a.2 + (1 : Int))))))
   else
    some (.done (.next a.1)))) N (([] : List Int), (0 : Int)))
 fun (f : (List Int)) =>
  some (f))
set_option maxHeartbeats 2000000 in
set_option maxRecDepth 20000 in
theorem m_recyclingref18_counting_ok (N : Nat) (w0 : World) (p0 : (List ApiEmptying)) (p1 : Int) (g : Option Addr) (i : Nat) (j : Nat) (l : RdE w0 7 encApiEmptying g p0) (z : SW g i j (List.length p0)) (r : (List Int)) (hr : m_recyclingref18_counting N p0 p1 = some r) :
  Ret Tryz.prog 153 [.slice g i j, .int .i64 p1] w0 (fun (_r : (List Int)) (u : (Option Addr) × Nat × Nat) => .slice u.1 u.2.1 u.2.2) (fun (r : (List Int)) (u : (Option Addr) × Nat × Nat) => [ownE 3 1 encI u.1 u.2.1 u.2.2 r]) r := by
 refine calls_v (n := 69) r hr Tryz.func153 ?_
 unfold m_recyclingref18_counting
 refine sr <| la 1 ((4, .slice _ _ _) :: _) rfl <| nn <| sr <| la 1 ((5, .slice _ _ _) :: _) rfl <| nn <| sr <| la 1 ((12, .slice _ _ _) :: _) rfl <| lm_call 13 (V := (fun (_r : (List Int)) (u : (Option Addr) × Nat × Nat) => .slice u.1 u.2.1 u.2.2)) (HR := (fun (r : (List Int)) (u : (Option Addr) × Nat × Nat) => [ownE 3 1 encI u.1 u.2.1 u.2.2 r])) (by kernel_rfl) (fun w1 => op_call (by kernel_rfl)) (fun r1 hr1 w1 c1 => m_recyclingref18_ordered_ok N w1 p0 g i j (l.old c1) z r1 hr1) ?_
 intro r5 u6
 refine la 1 ((6, .slice _ _ _) :: _) rfl <| nn <| cm_join (σ := (List Int)) (ξ := (Option Addr) × Nat × Nat) (fun C e => [(5, .slice e.1 e.2.1 e.2.2)]) (fun C e => [ownE 3 1 encI e.1 e.2.1 e.2.2 C]) ?_ ?_
 ·refine sr <| la 1 ((7, .int .i64 _) :: _) rfl <| nn <| cm_block <| cm_nilrow 3 1 encI <| cm_loop (σ := (List Int) × Int) (ξ := (Option Addr) × Nat × Nat) (fun a b => [(0, .slice g i j), (1, .int .i64 p1), (5, .slice b.1 b.2.1 b.2.2), (6, .slice u6.1 u6.2.1 u6.2.2), (7, .int .i64 a.2)]) (fun a b => [ownE 3 1 encI b.1 b.2.1 b.2.2 a.1, ownE 3 1 encI u6.1 u6.2.1 u6.2.2 r5]) (none, 0, 0) ?_ ?_ ?_
  ·exact sq
  ·exact sh [0, 1]
  intro a b
  refine cm_seq <| sr <| la 2 ((15, .slice _ _ _) :: (14, .int .i64 _) :: _) rfl <| v_ 16 (fun _ c1 => op_lenN rfl (by kernel_rfl) (c1.ownZ 1 rfl).2.2) <| la 1 ((17, .bool _) :: _) rfl <| nn <| cm_cond (by kernel_rfl) rfl (fun O => ?_) (fun O => ?_)
  ·refine sk <| cm_join (σ := (List Int)) (ξ := (Option Addr) × Nat × Nat) (fun G f => [(0, .slice g i j), (1, .int .i64 p1), (5, .slice f.1 f.2.1 f.2.2), (6, .slice u6.1 u6.2.1 u6.2.2), (7, .int .i64 a.2)]) (fun G f => [ownE 3 1 encI f.1 f.2.1 f.2.2 G, ownE 3 1 encI u6.1 u6.2.1 u6.2.2 r5]) ?_ ?_
   ·refine cm_block <| sr <| la 3 ((22, .int .i64 _) :: (21, .slice _ _ _) :: (20, .slice _ _ _) :: _) rfl <| lm_ck (fun m => ?_)
    refine v_ 23 (fun _ c1 => oI 1 rfl rfl ((c1.own 1 rfl encI_len).addr m.1 m.2) (c1.ownZ 1 rfl).2.2 m) <| v_ 24 (fun _ c1 => oL (v := .int .i64 (ix r5 a.2)) ((c1.own 1 rfl encI_len).cell0 m.1 m.2 rfl)) <| lm_ck (fun o => ?_)
    refine v_ 25 (fun _ c1 => oI 7 rfl rfl ((l.old c1).addr o.1 o.2) z.2.2 o) <| v_ 26 (fun _ c1 => oR [.int .i64 ((ix p0 (ix r5 a.2)).ID), .int .i64 ((ix p0 (ix r5 a.2)).Container), .int .i64 ((ix p0 (ix r5 a.2)).Vehicle), .int .i64 ((ix p0 (ix r5 a.2)).At), .int .i64 ((ix p0 (ix r5 a.2)).Mass.Lo), .int .i64 ((ix p0 (ix r5 a.2)).Mass.Hi), .bool ((ix p0 (ix r5 a.2)).Void)] ((l.old c1).row o.1 o.2)) <| lm_alloc 8 [.int .i64 0, .int .i64 0, .int .i64 0, .int .i64 0, .int .i64 0, .int .i64 0, .bool false] (v := .agg #[.int .i64 0, .int .i64 0, .int .i64 0, .int .i64 0, .int .i64 0, .int .i64 0, .bool false]) (by kernel_rfl) (by kernel_rfl) rfl ?_
    intro K
    refine lm_storeA 0 [.int .i64 _, .int .i64 _, .int .i64 _, .int .i64 _, .int .i64 _, .int .i64 _, .bool _] [_, _, _, _, _, _, _] (H' := [blkE _ _ [_, _, _, _, _, _, _], _, _]) (by kernel_rfl) rfl rfl (by kernel_rfl) rfl rfl (by kernel_rfl) rfl rfl <| nn <| sr <| v_ 27 (fun _ _ => oF 6 6 rfl) <| v_ 28 (fun _ c1 => oL (c1.cell 0 (u := .bool _) rfl rfl)) <| la 2 ((9, .bool _) :: (29, .bool _) :: _) rfl <| nn <| cm_join (σ := Bool) (ξ := Unit) (fun J L => [(0, .slice g i j), (1, .int .i64 p1), (5, .slice b.1 b.2.1 b.2.2), (6, .slice u6.1 u6.2.1 u6.2.2), (7, .int .i64 a.2), (9, .bool J)]) (fun J L => [ownE 3 1 encI b.1 b.2.1 b.2.2 a.1, ownE 3 1 encI u6.1 u6.2.1 u6.2.2 r5]) ?_ ?_
    ·refine sr <| la 1 ((10, .int .i64 _) :: _) rfl <| nn <| cm_block <| cm_loop (σ := Bool × Int) (ξ := Unit) (fun d M => [(0, .slice g i j), (1, .int .i64 p1), (5, .slice b.1 b.2.1 b.2.2), (6, .slice u6.1 u6.2.1 u6.2.2), (7, .int .i64 a.2), (8, .pointer (some ⟨K, 0, none⟩)), (9, .bool d.1), (10, .int .i64 d.2)]) (fun d M => [ownE 3 1 encI b.1 b.2.1 b.2.2 a.1, ownE 3 1 encI u6.1 u6.2.1 u6.2.2 r5, blkE K 117 [.int .i64 ((ix p0 (ix r5 a.2)).ID), .int .i64 ((ix p0 (ix r5 a.2)).Container), .int .i64 ((ix p0 (ix r5 a.2)).Vehicle), .int .i64 ((ix p0 (ix r5 a.2)).At), .int .i64 ((ix p0 (ix r5 a.2)).Mass.Lo), .int .i64 ((ix p0 (ix r5 a.2)).Mass.Hi), .bool ((ix p0 (ix r5 a.2)).Void)]]) () ?_ ?_ ?_
     ·exact sq
     ·exact sh [1, 2, 0]
     intro d M
     refine cm_seq <| sr <| la 2 ((31, .slice _ _ _) :: (30, .int .i64 _) :: _) rfl <| v_ 32 (fun _ c1 => op_lenN rfl (by kernel_rfl) (c1.ownZ 0 rfl).2.2) <| la 1 ((33, .bool _) :: _) rfl <| nn <| cm_cond (by kernel_rfl) rfl (fun Q => ?_) (fun Q => ?_)
     ·refine sk <| cm_seq <| cm_block <| sr <| la 3 ((38, .int .i64 _) :: (37, .slice _ _ _) :: (36, .slice _ _ _) :: _) rfl <| lm_ck (fun q => ?_)
      refine v_ 39 (fun _ c1 => oI 1 rfl rfl ((c1.own 0 rfl encI_len).addr q.1 q.2) (c1.ownZ 0 rfl).2.2 q) <| v_ 40 (fun _ c1 => oL (v := .int .i64 (ix a.1 d.2)) ((c1.own 0 rfl encI_len).cell0 q.1 q.2 rfl)) <| lm_ck (fun t => ?_)
      refine v_ 41 (fun _ c1 => oI 7 rfl rfl ((l.old c1).addr t.1 t.2) z.2.2 t) <| v_ 42 (fun _ c1 => oR [.int .i64 ((ix p0 (ix a.1 d.2)).ID), .int .i64 ((ix p0 (ix a.1 d.2)).Container), .int .i64 ((ix p0 (ix a.1 d.2)).Vehicle), .int .i64 ((ix p0 (ix a.1 d.2)).At), .int .i64 ((ix p0 (ix a.1 d.2)).Mass.Lo), .int .i64 ((ix p0 (ix a.1 d.2)).Mass.Hi), .bool ((ix p0 (ix a.1 d.2)).Void)] ((l.old c1).row t.1 t.2)) <| lm_alloc 11 [.int .i64 0, .int .i64 0, .int .i64 0, .int .i64 0, .int .i64 0, .int .i64 0, .bool false] (v := .agg #[.int .i64 0, .int .i64 0, .int .i64 0, .int .i64 0, .int .i64 0, .int .i64 0, .bool false]) (by kernel_rfl) (by kernel_rfl) rfl ?_
      intro a4
      refine lm_storeA 0 [.int .i64 _, .int .i64 _, .int .i64 _, .int .i64 _, .int .i64 _, .int .i64 _, .bool _] [_, _, _, _, _, _, _] (H' := [blkE _ _ [_, _, _, _, _, _, _], _, _, _]) (by kernel_rfl) rfl rfl (by kernel_rfl) rfl rfl (by kernel_rfl) rfl rfl <| nn <| cm_ck (fun U => ?_)
      refine cm_of_then <| cm_cutE [(9, .bool (d.1 && ((decide ((ix p0 (ix a.1 d.2)).Container ≠ (ix p0 (ix r5 a.2)).Container)) || (decide (p1 < (((ix p0 (ix r5 a.2)).At) - ((ix p0 (ix a.1 d.2)).At)))))))] ?_ ?_
      ·refine wq_bool 43 (by kernel_rfl) (fun w1 c1 => (op_move (v := .bool _) rfl)) (fun x => ?_) (fun x => ?_)
       ·refine qa 1 ((44, .bool true) :: _) rfl <| q_ 45 (fun _ _ => oF 1 1 rfl) <| q_ 46 (fun _ c1 => oL (c1.cell 0 (u := .int .i64 _) rfl rfl)) <| q_ 47 (fun _ _ => oF 1 1 rfl) <| q_ 48 (fun _ c1 => oL (c1.cell 3 (u := .int .i64 _) rfl rfl)) <| qd 49 (fun _ _ => op_neq rfl rfl) (fun B => ?_) (fun B => ?_)
        ·refine qa 11 ((9, .bool true) :: (59, .bool true) :: (58, .bool true) :: (57, undef) :: (56, undef) :: (55, undef) :: (54, undef) :: (53, undef) :: (52, undef) :: (51, undef) :: (50, .bool true) :: _) rfl ?_
         exact leaf_q (sub_out 18 _ rfl (by kernel_rfl) ⟨(congrArg Value.bool (by rw [x, decide_eq_true B] <;> rfl)), trivial⟩)
        ·refine qa 1 ((50, .bool false) :: _) rfl <| q_ 51 (fun _ _ => oF 3 3 rfl) <| q_ 52 (fun _ c1 => oL (c1.cell 3 (u := .int .i64 _) rfl rfl)) <| q_ 53 (fun _ _ => oF 3 3 rfl) <| q_ 54 (fun _ c1 => oL (c1.cell 0 (u := .int .i64 _) rfl rfl)) <| q_ 55 (fun _ _ => op_sub rfl rfl (U (by rw [x, decide_eq_false B] <;> rfl))) <| qa 5 ((9, .bool _) :: (59, .bool _) :: (58, .bool _) :: (57, .bool _) :: (56, .int .i64 _) :: _) rfl ?_
         exact leaf_q (sub_out 18 _ rfl (by kernel_rfl) ⟨(congrArg Value.bool (by rw [x, decide_eq_false B] <;> rfl)), trivial⟩)
       ·refine qa 17 ((9, .bool false) :: (59, .bool false) :: (58, undef) :: (57, undef) :: (56, undef) :: (55, undef) :: (54, undef) :: (53, undef) :: (52, undef) :: (51, undef) :: (50, undef) :: (49, undef) :: (48, undef) :: (47, undef) :: (46, undef) :: (45, undef) :: (44, .bool false) :: _) rfl ?_
        exact leaf_q (sub_out 18 _ rfl (by kernel_rfl) ⟨(congrArg Value.bool (by rw [x] <;> rfl)), trivial⟩)
      refine xm_of_then <| xm_inN <| xm_next <| cm_region <| la 1 ((34, .int .i64 _) :: _) rfl <| lm_ck (fun X => ?_)
      refine v_ 35 (fun _ _ => op_add rfl rfl X) <| la 1 ((10, .int .i64 _) :: _) rfl <| lm_nil ?_
      exact xm_lnext () sq (sh [1, 2, 3])
     ·refine cm_exit <| xm_thenE <| xm_lexit <| xm_here ?_
      exact xm_lnext () sq (sh [0, 1])
    intro J L
    refine sr <| la 1 ((60, .bool _) :: _) rfl <| nn <| cm_condB (by kernel_rfl) rfl (fun Y => ?_) (fun Y => ?_)
    ·refine cm_region <| la 3 ((63, .int .i64 _) :: (62, .slice _ _ _) :: (61, .slice _ _ _) :: _) rfl <| lm_ck (fun y => ?_)
     refine v_ 64 (fun _ c1 => oI 1 rfl rfl ((c1.own 1 rfl encI_len).addr y.1 y.2) (c1.ownZ 1 rfl).2.2 y) <| v_ 65 (fun _ c1 => oL (v := .int .i64 (ix r5 a.2)) ((c1.own 1 rfl encI_len).cell0 y.1 y.2 rfl)) <| lm_slice1 66 (el := 3) (sz := 1) (bytes := 8) (enc := encI) (ix r5 a.2) (by kernel_rfl) (by kernel_rfl) encI_len rfl (by kernel_rfl) ?_
     intro a5 a6 a7 a8
     refine lm_ck (fun Z => ?_)
     refine lm_append 67 1 (el := 3) (sz := 1) (bytes := 8) (enc := encI) (l2 := ([(ix r5 a.2)])) (by kernel_rfl) (by kernel_rfl) encI_len encI_one rfl rfl rfl (fun w1 c1 => (c1.ownZ 0 rfl)) (fun w1 c1 => (c1.own 0 rfl encI_len)) Z ?_ (by kernel_rfl)
     intro a0 a1 a2
     refine la 1 ((5, .slice _ _ _) :: _) rfl <| lm_nil <| xm_inN ?_
     exact xm_lnext (a0, a1, a2) sq (sh [1, 2])
    ·refine cm_skip <| xm_inN ?_
     exact xm_lnext (b.1, b.2.1, b.2.2) sq (sh [0, 1])
   intro G f
   refine cm_region <| la 1 ((18, .int .i64 _) :: _) rfl <| lm_ck (fun a3 => ?_)
   refine v_ 19 (fun _ _ => op_add rfl rfl a3) <| la 1 ((7, .int .i64 _) :: _) rfl <| lm_nil ?_
   exact xm_lnext (f.1, f.2.1, f.2.2) sq (sh [0, 1])
  ·refine cm_exit <| xm_thenE <| xm_lexit <| xm_here ?_
   exact xm_lnext (b.1, b.2.1, b.2.2) sq (sh [0])
 intro C e
 refine sr <| la 2 ((4, .slice _ _ _) :: (68, .slice _ _ _) :: _) rfl <| nn <| cm_ret ?_
 exact xm_retT rfl (by kernel_rfl) (show _ = Value.slice _ _ _ from rfl) fun w1 c1 => ⟨(e.1, e.2.1, e.2.2), rfl, hsub [0] (by kernel_rfl) rfl w1 c1⟩
/-- recyclingref18.Counts -/
def m_recyclingref18_Counts (N : Nat) (p0 : (List ApiEmptying)) (p1 : Int) : Option ((List Int) × Int) :=
 Option.bind (m_recyclingref18_Check N p0 (256 : Int) (16 : Int)) fun r5 => (if r5 ≠ 0 then
  some ((([] : List Int), r5))
 else
  (if ((decide (p1 < 0)) || (decide (86400 < p1))) = true then
   some ((([] : List Int), (1 : Int)))
  else
   Option.bind (m_recyclingref18_counting N p0 p1) fun a => some ((a, (0 : Int)))))
set_option maxRecDepth 20000 in
theorem m_recyclingref18_Counts_ok (N : Nat) (w0 : World) (p0 : (List ApiEmptying)) (p1 : Int) (a : Option Addr) (b : Nat) (d : Nat) (e : RdE w0 7 encApiEmptying a p0) (f : SW a b d (List.length p0)) (r : (List Int) × Int) (hr : m_recyclingref18_Counts N p0 p1 = some r) :
  Ret Tryz.prog 135 [.slice a b d, .int .i64 p1] w0 (fun (r : (List Int) × Int) (u : (Option Addr) × Nat × Nat) => .tuple #[.slice u.1 u.2.1 u.2.2, .int .i64 r.2]) (fun (r : (List Int) × Int) (u : (Option Addr) × Nat × Nat) => [ownE 3 1 encI u.1 u.2.1 u.2.2 r.1]) r := by
 refine calls_v (n := 21) r hr Tryz.func135 ?_
 unfold m_recyclingref18_Counts
 refine sr <| la 2 ((5, .int .i64 _) :: (4, .slice _ _ _) :: _) rfl <| nn <| cm_seq <| sr <| la 1 ((7, .slice _ _ _) :: _) rfl <| lm_call 8 (V := (fun (r : Int) (_u : Unit) => .int .i64 r)) (HR := (fun (_r : Int) (_u : Unit) => [])) (by kernel_rfl) (fun w1 => op_call (by kernel_rfl)) (fun r1 hr1 w1 c1 => m_recyclingref18_Check_ok N w1 p0 (256 : Int) (16 : Int) a b d (e.old c1) f r1 hr1) ?_
 intro r5 u6
 refine la 1 ((6, .int .i64 _) :: _) rfl <| nn <| sr <| la 2 ((10, .bool _) :: (9, .int .i64 _) :: _) rfl <| nn <| cm_cond (by kernel_rfl) rfl (fun h7 => ?_) (fun h7 => ?_)
 ·refine sr <| la 3 ((5, .int .i64 _) :: (4, .slice _ _ _) :: (11, .int .i64 _) :: _) rfl <| nn <| cm_ret <| xm_thenR <| xm_nilrow 3 1 encI ?_
  exact xm_retTT rfl (by kernel_rfl) (show _ = Value.slice _ _ _ from rfl) (by kernel_rfl) (show _ = Value.int .i64 _ from rfl) fun w1 c1 => ⟨(none, 0, 0), rfl, hsub [0] (by kernel_rfl) rfl w1 c1⟩
 ·refine sk <| cm_seq <| cm_seq <| cm_cutE [(17, .bool ((decide (p1 < 0)) || (decide (86400 < p1))))] ?_ ?_
  ·refine qa 1 ((12, .int .i64 _) :: _) rfl <| qd 13 (fun _ _ => op_lss rfl rfl) (fun h8 => ?_) (fun h8 => ?_)
   ·refine qa 4 ((17, .bool true) :: (16, undef) :: (15, undef) :: (14, .bool true) :: _) rfl ?_
    exact leaf_q (sub_out 6 _ rfl (by kernel_rfl) ⟨(congrArg Value.bool (by rw [decide_eq_true h8] <;> rfl)), trivial⟩)
   ·refine qa 4 ((17, .bool _) :: (16, .bool _) :: (15, .int .i64 _) :: (14, .bool false) :: _) rfl ?_
    exact leaf_q (sub_out 6 _ rfl (by kernel_rfl) ⟨(congrArg Value.bool (by rw [decide_eq_false h8] <;> rfl)), trivial⟩)
  refine xm_next <| cm_condB (by kernel_rfl) rfl (fun h9 => ?_) (fun h9 => ?_)
  ·refine sr <| la 2 ((5, .int .i64 _) :: (4, .slice _ _ _) :: _) rfl <| nn <| cm_ret <| xm_thenR <| xm_nilrow 3 1 encI ?_
   exact xm_retTT rfl (by kernel_rfl) (show _ = Value.slice _ _ _ from rfl) (by kernel_rfl) (show _ = Value.int .i64 _ from rfl) fun w1 c1 => ⟨(none, 0, 0), rfl, hsub [0] (by kernel_rfl) rfl w1 c1⟩
  ·refine sk <| sr <| la 2 ((19, .int .i64 _) :: (18, .slice _ _ _) :: _) rfl <| lm_call 20 (V := (fun (_r : (List Int)) (u : (Option Addr) × Nat × Nat) => .slice u.1 u.2.1 u.2.2)) (HR := (fun (r : (List Int)) (u : (Option Addr) × Nat × Nat) => [ownE 3 1 encI u.1 u.2.1 u.2.2 r])) (by kernel_rfl) (fun w1 => op_call (by kernel_rfl)) (fun r1 hr1 w1 c1 => m_recyclingref18_counting_ok N w1 p0 p1 a b d (e.old c1) f r1 hr1) ?_
   intro i g
   refine la 2 ((5, .int .i64 _) :: (4, .slice _ _ _) :: _) rfl <| nn <| cm_ret ?_
   exact xm_retTT rfl (by kernel_rfl) (show _ = Value.slice _ _ _ from rfl) (by kernel_rfl) (show _ = Value.int .i64 _ from rfl) fun w1 c1 => ⟨(g.1, g.2.1, g.2.2), rfl, hsub [0] (by kernel_rfl) rfl w1 c1⟩
/-- recyclingref18.Window -/
def m_recyclingref18_Window (_N : Nat) (p0 : ApiWindow) : Option (Bool) :=
 some ((((decide (0 ≤ p0.From)) && (decide (p0.From ≤ p0.To))) && (decide (p0.To ≤ 3155760000))))
set_option maxRecDepth 20000 in
theorem m_recyclingref18_Window_ok (N : Nat) (w0 : World) (p0 : ApiWindow)   (r : Bool) (hr : m_recyclingref18_Window N p0 = some r) :
  Ret Tryz.prog 136 [.agg #[.int .i64 p0.From, .int .i64 p0.To]] w0 (fun (r : Bool) (_u : Unit) => .bool r) (fun (_r : Bool) (_u : Unit) => []) r := by
 refine calls_v (n := 18) r hr Tryz.func136 ?_
 unfold m_recyclingref18_Window
 refine sr <| lm_box 1 [.int .i64 _, .int .i64 _] (by kernel_rfl) rfl ?_
 intro b5
 refine la 1 ((2, .bool false) :: _) rfl <| nn <| cm_seq <| cm_cutE [(2, .bool (((decide (0 ≤ p0.From)) && (decide (p0.From ≤ p0.To))) && (decide (p0.To ≤ 3155760000))))] ?_ ?_
 ·refine q_ 3 (fun _ _ => oF 0 0 rfl) <| q_ 4 (fun _ c1 => oL (c1.cell 0 (u := .int .i64 _) rfl rfl)) <| qd 5 (fun _ _ => op_leq rfl rfl) (fun h6 => ?_) (fun h6 => ?_)
  ·refine qa 1 ((6, .bool true) :: _) rfl <| q_ 7 (fun _ _ => oF 0 0 rfl) <| q_ 8 (fun _ c1 => oL (c1.cell 0 (u := .int .i64 _) rfl rfl)) <| q_ 9 (fun _ _ => oF 1 1 rfl) <| q_ 10 (fun _ c1 => oL (c1.cell 0 (u := .int .i64 _) rfl rfl)) <| qd 11 (fun _ _ => op_leq rfl rfl) (fun h7 => ?_) (fun h7 => ?_)
   ·refine qa 2 ((13, .bool true) :: (12, .bool true) :: _) rfl <| q_ 14 (fun _ _ => oF 1 1 rfl) <| q_ 15 (fun _ c1 => oL (c1.cell 0 (u := .int .i64 _) rfl rfl)) <| qa 3 ((2, .bool _) :: (17, .bool _) :: (16, .bool _) :: _) rfl ?_
    exact leaf_q (sub_out 16 _ rfl (by kernel_rfl) ⟨(congrArg Value.bool (by rw [decide_eq_true h6, decide_eq_true h7] <;> rfl)), trivial⟩)
   ·refine qa 7 ((2, .bool false) :: (17, .bool false) :: (16, undef) :: (15, undef) :: (14, undef) :: (13, .bool false) :: (12, .bool false) :: _) rfl ?_
    exact leaf_q (sub_out 16 _ rfl (by kernel_rfl) ⟨(congrArg Value.bool (by rw [decide_eq_true h6, decide_eq_false h7] <;> rfl)), trivial⟩)
  ·refine qa 13 ((2, .bool false) :: (17, .bool false) :: (16, undef) :: (15, undef) :: (14, undef) :: (13, .bool false) :: (12, .bool false) :: (11, undef) :: (10, undef) :: (9, undef) :: (8, undef) :: (7, undef) :: (6, .bool false) :: _) rfl ?_
   exact leaf_q (sub_out 16 _ rfl (by kernel_rfl) ⟨(congrArg Value.bool (by rw [decide_eq_false h6] <;> rfl)), trivial⟩)
 refine xm_next <| cm_ret ?_
 exact xm_retT rfl (by kernel_rfl) (show _ = Value.bool _ from rfl) fun w1 c1 => ⟨(), rfl, hsub [] (by kernel_rfl) rfl w1 c1⟩
/-- recyclingref18.Belongs -/
def m_recyclingref18_Belongs (N : Nat) (p0 : (List ApiAssign)) (p1 : Int) (p2 : Int) (p3 : Int) : Option (Bool) :=
 (andThen
  (loopM (fun (a : Int) =>
   (if a < (List.length p0 : Int) then
    ck ((0 : Int) ≤ a ∧ a < (List.length p0 : Int)) (
     ck (decide ((ix p0 a).Container = p1) = true → (0 : Int) ≤ a ∧ a < (List.length p0 : Int)) (
      ck (((decide ((ix p0 a).Container = p1)) && (decide ((ix p0 a).When.From ≤ p3))) = true → (0 : Int) ≤ a ∧ a < (List.length p0 : Int)) (
       (if (((decide ((ix p0 a).Container = p1)) && (decide ((ix p0 a).When.From ≤ p3))) && (decide (p3 < (ix p0 a).When.To))) = true then
        ck ((0 : Int) ≤ a ∧ a < (List.length p0 : Int)) (
         some (.done (.done ((decide ((ix p0 a).Household = p2))))))
       else
        ck (I64 (a + (1 : Int))) (
         some (.next (a + (1 : Int))))))))
   else
    some (.done (.next ())))) N (0 : Int))
 fun (_s38 : Unit) =>
  some (false))
set_option maxHeartbeats 2000000 in
set_option maxRecDepth 20000 in
theorem m_recyclingref18_Belongs_ok (N : Nat) (w0 : World) (p0 : (List ApiAssign)) (p1 : Int) (p2 : Int) (p3 : Int) (g : Option Addr) (t : Nat) (x : Nat) (a : RdE w0 4 encApiAssign g p0) (e : SW g t x (List.length p0)) (r : Bool) (hr : m_recyclingref18_Belongs N p0 p1 p2 p3 = some r) :
  Ret Tryz.prog 137 [.slice g t x, .int .i64 p1, .int .i64 p2, .int .i64 p3] w0 (fun (r : Bool) (_u : Unit) => .bool r) (fun (_r : Bool) (_u : Unit) => []) r := by
 refine calls_v (n := 50) r hr Tryz.func137 ?_
 unfold m_recyclingref18_Belongs
 refine sr <| la 1 ((8, .bool false) :: _) rfl <| nn <| cm_join (σ := Unit) (ξ := Unit) (fun y z => []) (fun y z => []) ?_ ?_
 ·refine sr <| la 1 ((9, .int .i64 _) :: _) rfl <| nn <| cm_block <| cm_loop (σ := Int) (ξ := Unit) (fun d B => [(0, .slice g t x), (1, .int .i64 p1), (2, .int .i64 p2), (3, .int .i64 p3), (9, .int .i64 d)]) (fun d B => []) () ?_ ?_ ?_
  ·exact sq
  ·exact sh []
  intro d B
  refine cm_seq <| sr <| la 2 ((11, .slice _ _ _) :: (10, .int .i64 _) :: _) rfl <| v_ 12 (fun _ _ => op_lenN rfl (by kernel_rfl) e.2.2) <| la 1 ((13, .bool _) :: _) rfl <| nn <| cm_cond (by kernel_rfl) rfl (fun C => ?_) (fun C => ?_)
  ·refine sk <| cm_seq <| cm_block <| cm_seq <| cm_ck (fun i => ?_)
   refine cm_ck (fun l => ?_)
   refine cm_ck (fun o => ?_)
   refine cm_cutE [(42, .bool (((decide ((ix p0 d).Container = p1)) && (decide ((ix p0 d).When.From ≤ p3))) && (decide (p3 < (ix p0 d).When.To))))] ?_ ?_
   ·refine qa 2 ((17, .int .i64 _) :: (16, .slice _ _ _) :: _) rfl <| q_ 18 (fun _ c1 => oI 4 rfl rfl ((a.old c1).addr i.1 i.2) e.2.2 i) <| q_ 19 (fun _ _ => op_field0 rfl (by kernel_rfl)) <| q_ 20 (fun _ c1 => oL (v := .int .i64 ((ix p0 d).Container)) ((a.old c1).cell0 i.1 i.2 rfl)) <| qa 1 ((21, .int .i64 _) :: _) rfl <| qd 22 (fun _ _ => op_eql rfl rfl) (fun b => ?_) (fun b => ?_)
    ·refine qa 3 ((25, .int .i64 _) :: (24, .slice _ _ _) :: (23, .bool true) :: _) rfl <| q_ 26 (fun _ c1 => oI 4 rfl rfl ((a.old c1).addr (l (by rw [decide_eq_true b] <;> rfl)).1 (l (by rw [decide_eq_true b] <;> rfl)).2) e.2.2 (l (by rw [decide_eq_true b] <;> rfl))) <| q_ 27 (fun _ _ => op_field (m := 2) rfl (by kernel_rfl)) <| q_ 28 (fun _ _ => op_field0 rfl (by kernel_rfl)) <| q_ 29 (fun _ c1 => oL (v := .int .i64 ((ix p0 d).When.From)) ((a.old c1).cell (j := 2) (l (by rw [decide_eq_true b] <;> rfl)).1 (l (by rw [decide_eq_true b] <;> rfl)).2 rfl)) <| qa 1 ((30, .int .i64 _) :: _) rfl <| qd 31 (fun _ _ => op_leq rfl rfl) (fun f => ?_) (fun f => ?_)
     ·refine qa 5 ((36, .int .i64 _) :: (35, .slice _ _ _) :: (34, .int .i64 _) :: (33, .bool true) :: (32, .bool true) :: _) rfl <| q_ 37 (fun _ c1 => oI 4 rfl rfl ((a.old c1).addr (o (by rw [decide_eq_true b, decide_eq_true f] <;> rfl)).1 (o (by rw [decide_eq_true b, decide_eq_true f] <;> rfl)).2) e.2.2 (o (by rw [decide_eq_true b, decide_eq_true f] <;> rfl))) <| q_ 38 (fun _ _ => op_field (m := 2) rfl (by kernel_rfl)) <| q_ 39 (fun _ _ => oF 1 (ao g + Int.toNat d * 4 + 3) rfl) <| q_ 40 (fun _ c1 => oL (v := .int .i64 ((ix p0 d).When.To)) ((a.old c1).cell (j := 3) (o (by rw [decide_eq_true b, decide_eq_true f] <;> rfl)).1 (o (by rw [decide_eq_true b, decide_eq_true f] <;> rfl)).2 rfl)) <| qa 2 ((42, .bool _) :: (41, .bool _) :: _) rfl ?_
      exact leaf_q (sub_out 27 _ rfl (by kernel_rfl) ⟨(congrArg Value.bool (by rw [decide_eq_true b, decide_eq_true f] <;> rfl)), trivial⟩)
     ·refine qa 11 ((42, .bool false) :: (41, undef) :: (40, undef) :: (39, undef) :: (38, undef) :: (37, undef) :: (36, undef) :: (35, undef) :: (34, undef) :: (33, .bool false) :: (32, .bool false) :: _) rfl ?_
      exact leaf_q (sub_out 27 _ rfl (by kernel_rfl) ⟨(congrArg Value.bool (by rw [decide_eq_true b, decide_eq_false f] <;> rfl)), trivial⟩)
    ·refine qa 20 ((42, .bool false) :: (41, undef) :: (40, undef) :: (39, undef) :: (38, undef) :: (37, undef) :: (36, undef) :: (35, undef) :: (34, undef) :: (33, .bool false) :: (32, .bool false) :: (31, undef) :: (30, undef) :: (29, undef) :: (28, undef) :: (27, undef) :: (26, undef) :: (25, undef) :: (24, undef) :: (23, .bool false) :: _) rfl ?_
     exact leaf_q (sub_out 27 _ rfl (by kernel_rfl) ⟨(congrArg Value.bool (by rw [decide_eq_false b] <;> rfl)), trivial⟩)
   refine xm_next <| cm_condB (by kernel_rfl) rfl (fun G => ?_) (fun G => ?_)
   ·refine sr <| la 2 ((44, .int .i64 _) :: (43, .slice _ _ _) :: _) rfl <| lm_ck (fun q => ?_)
    refine v_ 45 (fun _ c1 => oI 4 rfl rfl ((a.old c1).addr q.1 q.2) e.2.2 q) <| v_ 46 (fun _ _ => op_field (m := 1) rfl (by kernel_rfl)) <| v_ 47 (fun _ c1 => oL (v := .int .i64 ((ix p0 d).Household)) ((a.old c1).cell (j := 1) q.1 q.2 rfl)) <| la 3 ((8, .bool _) :: (49, .bool _) :: (48, .int .i64 _) :: _) rfl <| nn <| cm_ret <| xm_inR <| xm_thenR <| xm_lret <| xm_inR <| xm_lret ?_
    exact xm_retT rfl (by kernel_rfl) (show _ = Value.bool _ from rfl) fun w1 c1 => ⟨(), rfl, hsub [] (by kernel_rfl) rfl w1 c1⟩
   ·refine cm_skip <| xm_inN <| xm_next <| cm_region <| la 1 ((14, .int .i64 _) :: _) rfl <| lm_ck (fun J => ?_)
    refine v_ 15 (fun _ _ => op_add rfl rfl J) <| la 1 ((9, .int .i64 _) :: _) rfl <| lm_nil ?_
    exact xm_lnext () sq (sh [])
  ·refine cm_exit <| xm_thenE <| xm_lexit <| xm_here ?_
   exact xm_lnext () sub_nil (sh [])
 intro y z
 refine sr <| la 1 ((8, .bool false) :: _) rfl <| nn <| cm_ret ?_
 exact xm_retT rfl (by kernel_rfl) (show _ = Value.bool false from rfl) fun w1 c1 => ⟨(), rfl, hsub [] (by kernel_rfl) rfl w1 c1⟩
/-- recyclingref18.Of -/
def m_recyclingref18_Of (N : Nat) (p0 : (List ApiEmptying)) (p1 : (List ApiAssign)) (p2 : Int) (p3 : ApiWindow) (p4 : Int) : Option ((List Int) × Int) :=
 Option.bind (m_recyclingref18_Counts N p0 p4) fun r6 => (if r6.2 ≠ 0 then
  some ((([] : List Int), r6.2))
 else
  Option.bind (m_recyclingref18_Window N p3) fun r9 => (if (!r9) = true then
   some ((([] : List Int), (1 : Int)))
  else
   (andThen
    (loopM (fun (a : (List Int) × Int) =>
     (if a.2 < (List.length r6.1 : Int) then
      (andThen
       (ck ((0 : Int) ≤ a.2 ∧ a.2 < (List.length r6.1 : Int)) (
        ck ((0 : Int) ≤ (ix r6.1 a.2) ∧ (ix r6.1 a.2) < (List.length p0 : Int)) (
         callIf (((decide (p3.From ≤ (ix p0 (ix r6.1 a.2)).At)) && (decide ((ix p0 (ix r6.1 a.2)).At < p3.To))) = true) (m_recyclingref18_Belongs N p1 ((ix p0 (ix r6.1 a.2)).Container) p2 ((ix p0 (ix r6.1 a.2)).At)) fun b => (if (((decide (p3.From ≤ (ix p0 (ix r6.1 a.2)).At)) && (decide ((ix p0 (ix r6.1 a.2)).At < p3.To))) && b) = true then
          ck ((0 : Int) ≤ a.2 ∧ a.2 < (List.length r6.1 : Int)) (
           ck ((List.length a.1 + List.length ([(ix r6.1 a.2)])) * 8 ≤ 140737488355328) (
            some (.next (a.1 ++ ([(ix r6.1 a.2)])))))
         else
          some (.next a.1)))))
      fun (d : (List Int)) =>
       ck (I64 (a.2 + (1 : Int))) (
        some (.next (d, (a.2 + (1 : Int))))))
     else
      some (.done (.next a.1)))) N (([] : List Int), (0 : Int)))
   fun (e : (List Int)) =>
    some ((e, (0 : Int))))))
set_option maxHeartbeats 2000000 in
set_option maxRecDepth 20000 in
theorem m_recyclingref18_Of_ok (N : Nat) (w0 : World) (p0 : (List ApiEmptying)) (p1 : (List ApiAssign)) (p2 : Int) (p3 : ApiWindow) (p4 : Int) (f : Option Addr) (i : Nat) (j : Nat) (g : Option Addr) (l : Nat) (m : Nat) (y : RdE w0 7 encApiEmptying f p0) (G : SW f i j (List.length p0)) (K : RdE w0 4 encApiAssign g p1) (L : SW g l m (List.length p1)) (r : (List Int) × Int) (hr : m_recyclingref18_Of N p0 p1 p2 p3 p4 = some r) :
  Ret Tryz.prog 103 [.slice f i j, .slice g l m, .int .i64 p2, .agg #[.int .i64 p3.From, .int .i64 p3.To], .int .i64 p4] w0 (fun (r : (List Int) × Int) (u : (Option Addr) × Nat × Nat) => .tuple #[.slice u.1 u.2.1 u.2.2, .int .i64 r.2]) (fun (r : (List Int) × Int) (u : (Option Addr) × Nat × Nat) => [ownE 3 1 encI u.1 u.2.1 u.2.2 r.1]) r := by
 refine calls_v (n := 71) r hr Tryz.func103 ?_
 unfold m_recyclingref18_Of
 refine sr <| lm_box 8 [.int .i64 _, .int .i64 _] (by kernel_rfl) rfl ?_
 intro b5
 refine la 2 ((11, .int .i64 _) :: (10, .slice _ _ _) :: _) rfl <| nn <| sr <| la 2 ((19, .int .i64 _) :: (18, .slice _ _ _) :: _) rfl <| lm_call 20 (V := (fun (r : (List Int) × Int) (u : (Option Addr) × Nat × Nat) => .tuple #[.slice u.1 u.2.1 u.2.2, .int .i64 r.2])) (HR := (fun (r : (List Int) × Int) (u : (Option Addr) × Nat × Nat) => [ownE 3 1 encI u.1 u.2.1 u.2.2 r.1])) (by kernel_rfl) (fun w1 => op_call (by kernel_rfl)) (fun r1 hr1 w1 c1 => m_recyclingref18_Counts_ok N w1 p0 p4 f i j (y.old c1) G r1 hr1) ?_
 intro r6 u7
 refine la 5 ((13, .int .i64 _) :: (12, .slice _ _ _) :: (22, .int .i64 _) :: (21, .slice _ _ _) :: (17, .tuple _) :: _) rfl <| nn <| cm_seq <| sr <| la 2 ((24, .bool _) :: (23, .int .i64 _) :: _) rfl <| nn <| cm_cond (by kernel_rfl) rfl (fun h8 => ?_) (fun h8 => ?_)
 ·refine sr <| la 3 ((11, .int .i64 _) :: (10, .slice _ _ _) :: (25, .int .i64 _) :: _) rfl <| nn <| cm_ret <| xm_thenR <| xm_nilrow 3 1 encI ?_
  exact xm_retTT rfl (by kernel_rfl) (show _ = Value.slice _ _ _ from rfl) (by kernel_rfl) (show _ = Value.int .i64 _ from rfl) fun w1 c1 => ⟨(none, 0, 0), rfl, hsub [0] (by kernel_rfl) rfl w1 c1⟩
 ·refine sk <| cm_seq <| sr <| v_ 26 (fun _ c1 => oR [.int .i64 _, .int .i64 _] (c1.cells 1 rfl rfl)) <| lm_call 27 (V := (fun (r : Bool) (_u : Unit) => .bool r)) (HR := (fun (_r : Bool) (_u : Unit) => [])) (by kernel_rfl) (fun w1 => op_call (by kernel_rfl)) (fun r1 hr1 w1 c1 => m_recyclingref18_Window_ok N w1 p3  r1 hr1) ?_
  intro r9 a7
  refine la 1 ((28, .bool _) :: _) rfl <| nn <| cm_condB (by kernel_rfl) rfl (fun a1 => ?_) (fun a1 => ?_)
  ·refine sr <| la 2 ((11, .int .i64 _) :: (10, .slice _ _ _) :: _) rfl <| nn <| cm_ret <| xm_thenR <| xm_nilrow 3 1 encI ?_
   exact xm_retTT rfl (by kernel_rfl) (show _ = Value.slice _ _ _ from rfl) (by kernel_rfl) (show _ = Value.int .i64 _ from rfl) fun w1 c1 => ⟨(none, 0, 0), rfl, hsub [0] (by kernel_rfl) rfl w1 c1⟩
  ·refine sk <| sr <| la 1 ((14, .slice _ _ _) :: _) rfl <| nn <| cm_join (σ := (List Int)) (ξ := (Option Addr) × Nat × Nat) (fun B d => [(14, .slice d.1 d.2.1 d.2.2)]) (fun B d => [ownE 3 1 encI d.1 d.2.1 d.2.2 B]) ?_ ?_
   ·refine sr <| la 1 ((15, .int .i64 _) :: _) rfl <| nn <| cm_block <| cm_nilrow 3 1 encI <| cm_loop (σ := (List Int) × Int) (ξ := (Option Addr) × Nat × Nat) (fun a b => [(0, .slice f i j), (1, .slice g l m), (2, .int .i64 p2), (8, .pointer (some ⟨b5, 0, none⟩)), (12, .slice u7.1 u7.2.1 u7.2.2), (14, .slice b.1 b.2.1 b.2.2), (15, .int .i64 a.2)]) (fun a b => [blkE b5 49 [.int .i64 p3.From, .int .i64 p3.To], ownE 3 1 encI u7.1 u7.2.1 u7.2.2 r6.1, ownE 3 1 encI b.1 b.2.1 b.2.2 a.1]) (none, 0, 0) ?_ ?_ ?_
    ·exact sq
    ·exact sh [2, 1, 0]
    intro a b
    refine cm_seq <| sr <| la 2 ((30, .slice _ _ _) :: (29, .int .i64 _) :: _) rfl <| v_ 31 (fun _ c1 => op_lenN rfl (by kernel_rfl) (c1.ownZ 1 rfl).2.2) <| la 1 ((32, .bool _) :: _) rfl <| nn <| cm_cond (by kernel_rfl) rfl (fun M => ?_) (fun M => ?_)
    ·refine sk <| cm_join (σ := (List Int)) (ξ := (Option Addr) × Nat × Nat) (fun C e => [(0, .slice f i j), (1, .slice g l m), (2, .int .i64 p2), (8, .pointer (some ⟨b5, 0, none⟩)), (12, .slice u7.1 u7.2.1 u7.2.2), (14, .slice e.1 e.2.1 e.2.2), (15, .int .i64 a.2)]) (fun C e => [blkE b5 49 [.int .i64 p3.From, .int .i64 p3.To], ownE 3 1 encI u7.1 u7.2.1 u7.2.2 r6.1, ownE 3 1 encI e.1 e.2.1 e.2.2 C]) ?_ ?_
     ·refine cm_block <| sr <| la 3 ((37, .int .i64 _) :: (36, .slice _ _ _) :: (35, .slice _ _ _) :: _) rfl <| lm_ck (fun o => ?_)
      refine v_ 38 (fun _ c1 => oI 1 rfl rfl ((c1.own 1 rfl encI_len).addr o.1 o.2) (c1.ownZ 1 rfl).2.2 o) <| v_ 39 (fun _ c1 => oL (v := .int .i64 (ix r6.1 a.2)) ((c1.own 1 rfl encI_len).cell0 o.1 o.2 rfl)) <| lm_ck (fun q => ?_)
      refine v_ 40 (fun _ c1 => oI 7 rfl rfl ((y.old c1).addr q.1 q.2) G.2.2 q) <| v_ 41 (fun _ c1 => oR [.int .i64 ((ix p0 (ix r6.1 a.2)).ID), .int .i64 ((ix p0 (ix r6.1 a.2)).Container), .int .i64 ((ix p0 (ix r6.1 a.2)).Vehicle), .int .i64 ((ix p0 (ix r6.1 a.2)).At), .int .i64 ((ix p0 (ix r6.1 a.2)).Mass.Lo), .int .i64 ((ix p0 (ix r6.1 a.2)).Mass.Hi), .bool ((ix p0 (ix r6.1 a.2)).Void)] ((y.old c1).row q.1 q.2)) <| lm_alloc 16 [.int .i64 0, .int .i64 0, .int .i64 0, .int .i64 0, .int .i64 0, .int .i64 0, .bool false] (v := .agg #[.int .i64 0, .int .i64 0, .int .i64 0, .int .i64 0, .int .i64 0, .int .i64 0, .bool false]) (by kernel_rfl) (by kernel_rfl) rfl ?_
      intro a2
      refine lm_storeA 0 [.int .i64 _, .int .i64 _, .int .i64 _, .int .i64 _, .int .i64 _, .int .i64 _, .bool _] [_, _, _, _, _, _, _] (H' := [blkE _ _ [_, _, _, _, _, _, _], _, _, _]) (by kernel_rfl) rfl rfl (by kernel_rfl) rfl rfl (by kernel_rfl) rfl rfl <| nn <| cm_seq <| cm_callIf fun J O => cm_cutE [(62, .bool (((decide (p3.From ≤ (ix p0 (ix r6.1 a.2)).At)) && (decide ((ix p0 (ix r6.1 a.2)).At < p3.To))) && J))] ?_ ?_
      ·refine q_ 42 (fun _ _ => oF 0 0 rfl) <| q_ 43 (fun _ c1 => oL (c1.cell 1 (u := .int .i64 _) rfl rfl)) <| q_ 44 (fun _ _ => oF 3 3 rfl) <| q_ 45 (fun _ c1 => oL (c1.cell 0 (u := .int .i64 _) rfl rfl)) <| qd 46 (fun _ _ => op_leq rfl rfl) (fun t => ?_) (fun t => ?_)
       ·refine qa 1 ((47, .bool true) :: _) rfl <| q_ 48 (fun _ _ => oF 3 3 rfl) <| q_ 49 (fun _ c1 => oL (c1.cell 0 (u := .int .i64 _) rfl rfl)) <| q_ 50 (fun _ _ => oF 1 1 rfl) <| q_ 51 (fun _ c1 => oL (c1.cell 1 (u := .int .i64 _) rfl rfl)) <| qd 52 (fun _ _ => op_lss rfl rfl) (fun z => ?_) (fun z => ?_)
        ·refine qa 3 ((55, .slice _ _ _) :: (54, .bool true) :: (53, .bool true) :: _) rfl <| q_ 56 (fun _ _ => oF 1 1 rfl) <| q_ 57 (fun _ c1 => oL (c1.cell 0 (u := .int .i64 _) rfl rfl)) <| qa 1 ((58, .int .i64 _) :: _) rfl <| q_ 59 (fun _ _ => oF 3 3 rfl) <| q_ 60 (fun _ c1 => oL (c1.cell 0 (u := .int .i64 _) rfl rfl)) <| wq_call 61 (by kernel_rfl) (fun w1 c1 => op_call (by kernel_rfl)) (fun w1 c1 => (m_recyclingref18_Belongs_ok N w1 p1 ((ix p0 (ix r6.1 a.2)).Container) p2 ((ix p0 (ix r6.1 a.2)).At) g l m (K.old c1) L J (O (by rw [decide_eq_true t, decide_eq_true z] <;> rfl))).mono (fun _ _ ⟨_, hx, hu⟩ => ⟨hx, c1.call hu⟩)) <| qa 1 ((62, .bool _) :: _) rfl ?_
         exact leaf_q (sub_out 21 _ rfl (by kernel_rfl) ⟨(congrArg Value.bool (by rw [decide_eq_true t, decide_eq_true z] <;> rfl)), trivial⟩)
        ·refine qa 10 ((62, .bool false) :: (61, undef) :: (60, undef) :: (59, undef) :: (58, undef) :: (57, undef) :: (56, undef) :: (55, undef) :: (54, .bool false) :: (53, .bool false) :: _) rfl ?_
         exact leaf_q (sub_out 21 _ rfl (by kernel_rfl) ⟨(congrArg Value.bool (by rw [decide_eq_true t, decide_eq_false z] <;> rfl)), trivial⟩)
       ·refine qa 16 ((62, .bool false) :: (61, undef) :: (60, undef) :: (59, undef) :: (58, undef) :: (57, undef) :: (56, undef) :: (55, undef) :: (54, .bool false) :: (53, .bool false) :: (52, undef) :: (51, undef) :: (50, undef) :: (49, undef) :: (48, undef) :: (47, .bool false) :: _) rfl ?_
        exact leaf_q (sub_out 21 _ rfl (by kernel_rfl) ⟨(congrArg Value.bool (by rw [decide_eq_false t] <;> rfl)), trivial⟩)
      refine xm_next <| cm_condB (by kernel_rfl) rfl (fun Q => ?_) (fun Q => ?_)
      ·refine cm_region <| la 3 ((65, .int .i64 _) :: (64, .slice _ _ _) :: (63, .slice _ _ _) :: _) rfl <| lm_ck (fun x => ?_)
       refine v_ 66 (fun _ c1 => oI 1 rfl rfl ((c1.own 2 rfl encI_len).addr x.1 x.2) (c1.ownZ 2 rfl).2.2 x) <| v_ 67 (fun _ c1 => oL (v := .int .i64 (ix r6.1 a.2)) ((c1.own 2 rfl encI_len).cell0 x.1 x.2 rfl)) <| lm_slice1 68 (el := 3) (sz := 1) (bytes := 8) (enc := encI) (ix r6.1 a.2) (by kernel_rfl) (by kernel_rfl) encI_len rfl (by kernel_rfl) ?_
       intro a3 a4 a5 a6
       refine lm_ck (fun U => ?_)
       refine lm_append 69 4 (el := 3) (sz := 1) (bytes := 8) (enc := encI) (l2 := ([(ix r6.1 a.2)])) (by kernel_rfl) (by kernel_rfl) encI_len encI_one rfl rfl rfl (fun w1 c1 => (c1.ownZ 0 rfl)) (fun w1 c1 => (c1.own 0 rfl encI_len)) U ?_ (by kernel_rfl)
       intro X Y Z
       refine la 1 ((14, .slice _ _ _) :: _) rfl <| lm_nil <| xm_inN ?_
       exact xm_lnext (X, Y, Z) sq (sh [2, 3, 4])
      ·refine cm_skip <| xm_inN ?_
       exact xm_lnext (b.1, b.2.1, b.2.2) sq (sh [1, 2, 3])
     intro C e
     refine cm_region <| la 1 ((33, .int .i64 _) :: _) rfl <| lm_ck (fun a0 => ?_)
     refine v_ 34 (fun _ _ => op_add rfl rfl a0) <| la 1 ((15, .int .i64 _) :: _) rfl <| lm_nil ?_
     exact xm_lnext (e.1, e.2.1, e.2.2) sq (sh [0, 1, 2])
    ·refine cm_exit <| xm_thenE <| xm_lexit <| xm_here ?_
     exact xm_lnext (b.1, b.2.1, b.2.2) sq (sh [2])
   intro B d
   refine sr <| la 3 ((11, .int .i64 _) :: (10, .slice _ _ _) :: (70, .slice _ _ _) :: _) rfl <| nn <| cm_ret ?_
   exact xm_retTT rfl (by kernel_rfl) (show _ = Value.slice _ _ _ from rfl) (by kernel_rfl) (show _ = Value.int .i64 _ from rfl) fun w1 c1 => ⟨(d.1, d.2.1, d.2.2), rfl, hsub [0] (by kernel_rfl) rfl w1 c1⟩
/-- recyclingref53.At -/
def m_recyclingref53_At (N : Nat) (p0 : (List ApiTariff)) (p1 : Int) : Option (Int × Int) :=
 Option.bind (m_recyclingref53_Check N p0) fun r5 => (if r5 ≠ 0 then
  some (((0 : Int), r5))
 else
  (if ((decide (p1 < 0)) || (decide (36524 < p1))) = true then
   some (((0 : Int), (1 : Int)))
  else
   ck ((0 : Int) ≤ 0 ∧ 0 < (List.length p0 : Int)) (
    (if p1 < (ix p0 0).From then
     some (((0 : Int), (7 : Int)))
    else
     (andThen
      (loopM (fun (a : Int × Int) =>
       (if a.2 < (List.length p0 : Int) then
        (andThen
         (ck ((0 : Int) ≤ a.2 ∧ a.2 < (List.length p0 : Int)) (
          (if (ix p0 a.2).From ≤ p1 then
           some (.next a.2)
          else
           some (.next a.1))))
        fun (b : Int) =>
         ck (I64 (a.2 + (1 : Int))) (
          some (.next (b, (a.2 + (1 : Int))))))
       else
        some (.done (.next a.1)))) N ((0 : Int), (0 : Int)))
     fun (d : Int) =>
      some ((d, (0 : Int))))))))
set_option maxHeartbeats 2000000 in
set_option maxRecDepth 20000 in
theorem m_recyclingref53_At_ok (N : Nat) (w0 : World) (p0 : (List ApiTariff)) (p1 : Int) (b : Option Addr) (e : Nat) (f : Nat) (a : RdE w0 5 encApiTariff b p0) (d : SW b e f (List.length p0)) (r : Int × Int) (hr : m_recyclingref53_At N p0 p1 = some r) :
  Ret Tryz.prog 100 [.slice b e f, .int .i64 p1] w0 (fun (r : Int × Int) (_u : Unit) => .tuple #[.int .i64 r.1, .int .i64 r.2]) (fun (_r : Int × Int) (_u : Unit) => []) r := by
 refine calls_v (n := 41) r hr Tryz.func100 ?_
 unfold m_recyclingref53_At
 refine sr <| la 2 ((5, .int .i64 _) :: (4, .int .i64 _) :: _) rfl <| nn <| sr <| la 1 ((9, .slice _ _ _) :: _) rfl <| lm_call 10 (V := (fun (r : Int) (_u : Unit) => .int .i64 r)) (HR := (fun (_r : Int) (_u : Unit) => [])) (by kernel_rfl) (fun w1 => op_call (by kernel_rfl)) (fun r1 hr1 w1 c1 => m_recyclingref53_Check_ok N w1 p0 b e f (a.old c1) d r1 hr1) ?_
 intro r5 u6
 refine la 1 ((6, .int .i64 _) :: _) rfl <| nn <| cm_seq <| sr <| la 2 ((12, .bool _) :: (11, .int .i64 _) :: _) rfl <| nn <| cm_cond (by kernel_rfl) rfl (fun h7 => ?_) (fun h7 => ?_)
 ·refine sr <| la 3 ((5, .int .i64 _) :: (4, .int .i64 _) :: (13, .int .i64 _) :: _) rfl <| nn <| cm_ret <| xm_thenR ?_
  exact xm_retTT rfl (by kernel_rfl) (show _ = Value.int .i64 _ from rfl) (by kernel_rfl) (show _ = Value.int .i64 _ from rfl) fun w1 c1 => ⟨(), rfl, hsub [] (by kernel_rfl) rfl w1 c1⟩
 ·refine sk <| cm_seq <| cm_seq <| cm_cutE [(19, .bool ((decide (p1 < 0)) || (decide (36524 < p1))))] ?_ ?_
  ·refine qa 1 ((14, .int .i64 _) :: _) rfl <| qd 15 (fun _ _ => op_lss rfl rfl) (fun h8 => ?_) (fun h8 => ?_)
   ·refine qa 4 ((19, .bool true) :: (18, undef) :: (17, undef) :: (16, .bool true) :: _) rfl ?_
    exact leaf_q (sub_out 6 _ rfl (by kernel_rfl) ⟨(congrArg Value.bool (by rw [decide_eq_true h8] <;> rfl)), trivial⟩)
   ·refine qa 4 ((19, .bool _) :: (18, .bool _) :: (17, .int .i64 _) :: (16, .bool false) :: _) rfl ?_
    exact leaf_q (sub_out 6 _ rfl (by kernel_rfl) ⟨(congrArg Value.bool (by rw [decide_eq_false h8] <;> rfl)), trivial⟩)
  refine xm_next <| cm_condB (by kernel_rfl) rfl (fun h9 => ?_) (fun h9 => ?_)
  ·refine sr <| la 2 ((5, .int .i64 _) :: (4, .int .i64 _) :: _) rfl <| nn <| cm_ret <| xm_thenR ?_
   exact xm_retTT rfl (by kernel_rfl) (show _ = Value.int .i64 _ from rfl) (by kernel_rfl) (show _ = Value.int .i64 _ from rfl) fun w1 c1 => ⟨(), rfl, hsub [] (by kernel_rfl) rfl w1 c1⟩
  ·refine sk <| cm_seq <| sr <| la 2 ((21, .slice _ _ _) :: (20, .int .i64 _) :: _) rfl <| lm_ck (fun i => ?_)
   refine v_ 22 (fun _ c1 => oI 5 rfl rfl ((a.old c1).addr i.1 i.2) d.2.2 i) <| v_ 23 (fun _ _ => op_field0 rfl (by kernel_rfl)) <| v_ 24 (fun _ c1 => oL (v := .int .i64 ((ix p0 0).From)) ((a.old c1).cell0 i.1 i.2 rfl)) <| la 1 ((25, .bool _) :: _) rfl <| nn <| cm_cond (by kernel_rfl) rfl (fun x => ?_) (fun x => ?_)
   ·refine sr <| la 2 ((5, .int .i64 _) :: (4, .int .i64 _) :: _) rfl <| nn <| cm_ret <| xm_thenR ?_
    exact xm_retTT rfl (by kernel_rfl) (show _ = Value.int .i64 _ from rfl) (by kernel_rfl) (show _ = Value.int .i64 _ from rfl) fun w1 c1 => ⟨(), rfl, hsub [] (by kernel_rfl) rfl w1 c1⟩
   ·refine sk <| sr <| la 1 ((7, .int .i64 _) :: _) rfl <| nn <| cm_join (σ := Int) (ξ := Unit) (fun l o => [(7, .int .i64 l)]) (fun l o => []) ?_ ?_
    ·refine sr <| la 1 ((8, .int .i64 _) :: _) rfl <| nn <| cm_block <| cm_loop (σ := Int × Int) (ξ := Unit) (fun g q => [(0, .slice b e f), (1, .int .i64 p1), (7, .int .i64 g.1), (8, .int .i64 g.2)]) (fun g q => []) () ?_ ?_ ?_
     ·exact sq
     ·exact sh []
     intro g q
     refine cm_seq <| sr <| la 2 ((27, .slice _ _ _) :: (26, .int .i64 _) :: _) rfl <| v_ 28 (fun _ _ => op_lenN rfl (by kernel_rfl) d.2.2) <| la 1 ((29, .bool _) :: _) rfl <| nn <| cm_cond (by kernel_rfl) rfl (fun y => ?_) (fun y => ?_)
     ·refine sk <| cm_join (σ := Int) (ξ := Unit) (fun m t => [(0, .slice b e f), (1, .int .i64 p1), (7, .int .i64 m), (8, .int .i64 g.2)]) (fun m t => []) ?_ ?_
      ·refine cm_block <| sr <| la 2 ((33, .int .i64 _) :: (32, .slice _ _ _) :: _) rfl <| lm_ck (fun j => ?_)
       refine v_ 34 (fun _ c1 => oI 5 rfl rfl ((a.old c1).addr j.1 j.2) d.2.2 j) <| v_ 35 (fun _ _ => op_field0 rfl (by kernel_rfl)) <| v_ 36 (fun _ c1 => oL (v := .int .i64 ((ix p0 g.2).From)) ((a.old c1).cell0 j.1 j.2 rfl)) <| la 2 ((38, .bool _) :: (37, .int .i64 _) :: _) rfl <| nn <| cm_cond (by kernel_rfl) rfl (fun z => ?_) (fun z => ?_)
       ·refine cm_region <| la 2 ((7, .int .i64 _) :: (39, .int .i64 _) :: _) rfl <| lm_nil <| xm_inN ?_
        exact xm_lnext () sq (sh [])
       ·refine cm_skip <| xm_inN ?_
        exact xm_lnext () sq (sh [])
      intro m t
      refine cm_region <| la 1 ((30, .int .i64 _) :: _) rfl <| lm_ck (fun B => ?_)
      refine v_ 31 (fun _ _ => op_add rfl rfl B) <| la 1 ((8, .int .i64 _) :: _) rfl <| lm_nil ?_
      exact xm_lnext () sq (sh [])
     ·refine cm_exit <| xm_thenE <| xm_lexit <| xm_here ?_
      exact xm_lnext () sq (sh [])
    intro l o
    refine sr <| la 3 ((5, .int .i64 _) :: (4, .int .i64 _) :: (40, .int .i64 _) :: _) rfl <| nn <| cm_ret ?_
    exact xm_retTT rfl (by kernel_rfl) (show _ = Value.int .i64 _ from rfl) (by kernel_rfl) (show _ = Value.int .i64 _ from rfl) fun w1 c1 => ⟨(), rfl, hsub [] (by kernel_rfl) rfl w1 c1⟩
/-- recyclingref53.Mass -/
def m_recyclingref53_Mass (_N : Nat) (p0 : ApiSpan) : Option (Bool) :=
 some ((((decide (0 ≤ p0.Lo)) && (decide (p0.Lo ≤ p0.Hi))) && (decide (p0.Hi ≤ 1073741824))))
set_option maxRecDepth 20000 in
theorem m_recyclingref53_Mass_ok (N : Nat) (w0 : World) (p0 : ApiSpan)   (r : Bool) (hr : m_recyclingref53_Mass N p0 = some r) :
  Ret Tryz.prog 152 [.agg #[.int .i64 p0.Lo, .int .i64 p0.Hi]] w0 (fun (r : Bool) (_u : Unit) => .bool r) (fun (_r : Bool) (_u : Unit) => []) r := by
 refine calls_v (n := 18) r hr Tryz.func152 ?_
 unfold m_recyclingref53_Mass
 refine sr <| lm_box 1 [.int .i64 _, .int .i64 _] (by kernel_rfl) rfl ?_
 intro b5
 refine la 1 ((2, .bool false) :: _) rfl <| nn <| cm_seq <| cm_cutE [(2, .bool (((decide (0 ≤ p0.Lo)) && (decide (p0.Lo ≤ p0.Hi))) && (decide (p0.Hi ≤ 1073741824))))] ?_ ?_
 ·refine q_ 3 (fun _ _ => oF 0 0 rfl) <| q_ 4 (fun _ c1 => oL (c1.cell 0 (u := .int .i64 _) rfl rfl)) <| qd 5 (fun _ _ => op_geq rfl rfl) (fun h6 => ?_) (fun h6 => ?_)
  ·refine qa 1 ((6, .bool true) :: _) rfl <| q_ 7 (fun _ _ => oF 0 0 rfl) <| q_ 8 (fun _ c1 => oL (c1.cell 0 (u := .int .i64 _) rfl rfl)) <| q_ 9 (fun _ _ => oF 1 1 rfl) <| q_ 10 (fun _ c1 => oL (c1.cell 0 (u := .int .i64 _) rfl rfl)) <| qd 11 (fun _ _ => op_leq rfl rfl) (fun h7 => ?_) (fun h7 => ?_)
   ·refine qa 2 ((13, .bool true) :: (12, .bool true) :: _) rfl <| q_ 14 (fun _ _ => oF 1 1 rfl) <| q_ 15 (fun _ c1 => oL (c1.cell 0 (u := .int .i64 _) rfl rfl)) <| qa 3 ((2, .bool _) :: (17, .bool _) :: (16, .bool _) :: _) rfl ?_
    exact leaf_q (sub_out 16 _ rfl (by kernel_rfl) ⟨(congrArg Value.bool (by rw [decide_eq_true h6, decide_eq_true h7] <;> rfl)), trivial⟩)
   ·refine qa 7 ((2, .bool false) :: (17, .bool false) :: (16, undef) :: (15, undef) :: (14, undef) :: (13, .bool false) :: (12, .bool false) :: _) rfl ?_
    exact leaf_q (sub_out 16 _ rfl (by kernel_rfl) ⟨(congrArg Value.bool (by rw [decide_eq_true h6, decide_eq_false h7] <;> rfl)), trivial⟩)
  ·refine qa 13 ((2, .bool false) :: (17, .bool false) :: (16, undef) :: (15, undef) :: (14, undef) :: (13, .bool false) :: (12, .bool false) :: (11, undef) :: (10, undef) :: (9, undef) :: (8, undef) :: (7, undef) :: (6, .bool false) :: _) rfl ?_
   exact leaf_q (sub_out 16 _ rfl (by kernel_rfl) ⟨(congrArg Value.bool (by rw [decide_eq_false h6] <;> rfl)), trivial⟩)
 refine xm_next <| cm_ret ?_
 exact xm_retT rfl (by kernel_rfl) (show _ = Value.bool _ from rfl) fun w1 c1 => ⟨(), rfl, hsub [] (by kernel_rfl) rfl w1 c1⟩
/-- recyclingref53.Weight -/
def m_recyclingref53_Weight (N : Nat) (p0 : ApiTariff) (p1 : ApiSpan) : Option (Int × Int) :=
 Option.bind (m_recyclingref53_Usable N p0) fun r7 => callIf ((!(!r7)) = true) (m_recyclingref53_Mass N p1) fun r9 => (if ((!r7) || (!r9)) = true then
  some (((0 : Int), (1 : Int)))
 else
  ck (I64 p1.Lo) (
   ck (I64 ((Int.tdiv p1.Lo 1000) - p0.Free)) (
    (andThen
     (if ((Int.tdiv p1.Lo 1000) - p0.Free) < 0 then
      some (.next (0 : Int))
     else
      some (.next ((Int.tdiv p1.Lo 1000) - p0.Free)))
    fun (a : Int) =>
     some ((a, (0 : Int)))))))
set_option maxRecDepth 20000 in
theorem m_recyclingref53_Weight_ok (N : Nat) (w0 : World) (p0 : ApiTariff) (p1 : ApiSpan)   (r : Int × Int) (hr : m_recyclingref53_Weight N p0 p1 = some r) :
  Ret Tryz.prog 134 [.agg #[.int .i64 p0.From, .int .i64 p0.Base, .int .i64 p0.Empty, .int .i64 p0.Kilo, .int .i64 p0.Free], .agg #[.int .i64 p1.Lo, .int .i64 p1.Hi]] w0 (fun (r : Int × Int) (_u : Unit) => .tuple #[.int .i64 r.1, .int .i64 r.2]) (fun (_r : Int × Int) (_u : Unit) => []) r := by
 refine calls_v (n := 24) r hr Tryz.func134 ?_
 unfold m_recyclingref53_Weight
 refine sr <| lm_box 2 [.int .i64 _, .int .i64 _, .int .i64 _, .int .i64 _, .int .i64 _] (by kernel_rfl) rfl ?_
 intro b5
 refine lm_box 3 [.int .i64 _, .int .i64 _] (by kernel_rfl) rfl ?_
 intro b6
 refine la 2 ((5, .int .i64 _) :: (4, .int .i64 _) :: _) rfl <| nn <| cm_seq <| cm_seq <| cm_bind fun r7 h8 => cm_callIf fun r9 e => cm_cutE [(14, .bool ((!r7) || (!r9)))] ?_ ?_
 ·refine q_ 7 (fun _ c1 => oR [.int .i64 _, .int .i64 _, .int .i64 _, .int .i64 _, .int .i64 _] (c1.cells 1 rfl rfl)) <| wq_callb 8 (by kernel_rfl) (fun w1 c1 => op_call (by kernel_rfl)) (fun w1 c1 => (m_recyclingref53_Usable_ok N w1 p0  r7 h8).mono (fun _ _ ⟨_, hx, hu⟩ => ⟨hx, c1.call hu⟩)) (fun a => ?_) (fun a => ?_)
  ·refine qa 2 ((10, .bool false) :: (9, .bool false) :: _) rfl <| q_ 11 (fun _ c1 => oR [.int .i64 _, .int .i64 _] (c1.cells 0 rfl rfl)) <| wq_call 12 (by kernel_rfl) (fun w1 c1 => op_call (by kernel_rfl)) (fun w1 c1 => (m_recyclingref53_Mass_ok N w1 p1  r9 (e (by rw [a] <;> rfl))).mono (fun _ _ ⟨_, hx, hu⟩ => ⟨hx, c1.call hu⟩)) <| qa 2 ((14, .bool _) :: (13, .bool _) :: _) rfl ?_
   exact leaf_q (sub_out 8 _ rfl (by kernel_rfl) ⟨(congrArg Value.bool (by rw [a] <;> rfl)), trivial⟩)
  ·refine qa 6 ((14, .bool true) :: (13, undef) :: (12, undef) :: (11, undef) :: (10, .bool true) :: (9, .bool true) :: _) rfl ?_
   exact leaf_q (sub_out 8 _ rfl (by kernel_rfl) ⟨(congrArg Value.bool (by rw [a] <;> rfl)), trivial⟩)
 refine xm_next <| cm_condB (by kernel_rfl) rfl (fun f => ?_) (fun f => ?_)
 ·refine sr <| la 2 ((5, .int .i64 _) :: (4, .int .i64 _) :: _) rfl <| nn <| cm_ret <| xm_thenR ?_
  exact xm_retTT rfl (by kernel_rfl) (show _ = Value.int .i64 _ from rfl) (by kernel_rfl) (show _ = Value.int .i64 _ from rfl) fun w1 c1 => ⟨(), rfl, hsub [] (by kernel_rfl) rfl w1 c1⟩
 ·refine sk <| sr <| v_ 15 (fun _ _ => oF 0 0 rfl) <| v_ 16 (fun _ c1 => oL (c1.cell 0 (u := .int .i64 _) rfl rfl)) <| lm_ck (fun g => ?_)
  refine v_ 17 (fun _ _ => op_quoK rfl rfl (by kernel_rfl) g) <| v_ 18 (fun _ _ => oF 4 4 rfl) <| v_ 19 (fun _ c1 => oL (c1.cell 1 (u := .int .i64 _) rfl rfl)) <| lm_ck (fun i => ?_)
  refine v_ 20 (fun _ _ => op_sub rfl rfl i) <| la 1 ((6, .int .i64 _) :: _) rfl <| nn <| cm_join (σ := Int) (ξ := Unit) (fun b d => [(6, .int .i64 b)]) (fun b d => []) ?_ ?_
  ·refine sr <| la 2 ((22, .bool _) :: (21, .int .i64 _) :: _) rfl <| nn <| cm_cond (by kernel_rfl) rfl (fun j => ?_) (fun j => ?_)
   ·refine cm_region <| la 1 ((6, .int .i64 _) :: _) rfl <| lm_nil ?_
    exact xm_lnext () sq (sh [])
   ·refine cm_skip ?_
    exact xm_lnext () sq (sh [])
  intro b d
  refine sr <| la 3 ((5, .int .i64 _) :: (4, .int .i64 _) :: (23, .int .i64 _) :: _) rfl <| nn <| cm_ret ?_
  exact xm_retTT rfl (by kernel_rfl) (show _ = Value.int .i64 _ from rfl) (by kernel_rfl) (show _ = Value.int .i64 _ from rfl) fun w1 c1 => ⟨(), rfl, hsub [] (by kernel_rfl) rfl w1 c1⟩
/-- recyclingref53.Items -/
def m_recyclingref53_Items (N : Nat) (p0 : ApiTariff) (p1 : ApiEmptying) : Option ((List ApiItem) × Int) :=
 Option.bind (m_recyclingref53_Weight N p0 p1.Mass) fun r7 => (if (((decide (r7.2 ≠ 0)) || (decide (p1.ID < 1))) || (decide (1000000 < p1.ID))) = true then
  some ((([] : List ApiItem), (1 : Int)))
 else
  (andThen
   (if 0 < r7.1 then
    ck (I64 (r7.1 * p0.Kilo)) (
     ck ((List.length ([(ApiItem.mk 2 p1.ID 1 p0.Empty p0.Empty)]) + List.length ([(ApiItem.mk 3 p1.ID r7.1 p0.Kilo (r7.1 * p0.Kilo))])) * 40 ≤ 140737488355328) (
      some (.next (([(ApiItem.mk 2 p1.ID 1 p0.Empty p0.Empty)]) ++ ([(ApiItem.mk 3 p1.ID r7.1 p0.Kilo (r7.1 * p0.Kilo))])))))
   else
    some (.next ([(ApiItem.mk 2 p1.ID 1 p0.Empty p0.Empty)])))
  fun (a : (List ApiItem)) =>
   some ((a, (0 : Int)))))
set_option maxHeartbeats 2000000 in
set_option maxRecDepth 20000 in
theorem m_recyclingref53_Items_ok (N : Nat) (w0 : World) (p0 : ApiTariff) (p1 : ApiEmptying)   (r : (List ApiItem) × Int) (hr : m_recyclingref53_Items N p0 p1 = some r) :
  Ret Tryz.prog 101 [.agg #[.int .i64 p0.From, .int .i64 p0.Base, .int .i64 p0.Empty, .int .i64 p0.Kilo, .int .i64 p0.Free], .agg #[.int .i64 p1.ID, .int .i64 p1.Container, .int .i64 p1.Vehicle, .int .i64 p1.At, .int .i64 p1.Mass.Lo, .int .i64 p1.Mass.Hi, .bool p1.Void]] w0 (fun (r : (List ApiItem) × Int) (u : (Option Addr) × Nat × Nat) => .tuple #[.slice u.1 u.2.1 u.2.2, .int .i64 r.2]) (fun (r : (List ApiItem) × Int) (u : (Option Addr) × Nat × Nat) => [ownE 100 5 encApiItem u.1 u.2.1 u.2.2 r.1]) r := by
 refine calls_v (n := 52) r hr Tryz.func101 ?_
 unfold m_recyclingref53_Items
 refine sr <| lm_box 2 [.int .i64 _, .int .i64 _, .int .i64 _, .int .i64 _, .int .i64 _] (by kernel_rfl) rfl ?_
 intro b5
 refine lm_box 3 [.int .i64 _, .int .i64 _, .int .i64 _, .int .i64 _, .int .i64 _, .int .i64 _, .bool _] (by kernel_rfl) rfl ?_
 intro b6
 refine la 2 ((5, .int .i64 _) :: (4, .slice _ _ _) :: _) rfl <| nn <| sr <| v_ 10 (fun _ c1 => oR [.int .i64 _, .int .i64 _, .int .i64 _, .int .i64 _, .int .i64 _] (c1.cells 1 rfl rfl)) <| v_ 11 (fun _ _ => oF 4 4 rfl) <| v_ 12 (fun _ c1 => oR [.int .i64 _, .int .i64 _] (c1.cells 0 rfl rfl)) <| lm_call 13 (V := (fun (r : Int × Int) (_u : Unit) => .tuple #[.int .i64 r.1, .int .i64 r.2])) (HR := (fun (_r : Int × Int) (_u : Unit) => [])) (by kernel_rfl) (fun w1 => op_call (by kernel_rfl)) (fun r1 hr1 w1 c1 => m_recyclingref53_Weight_ok N w1 p0 p1.Mass  r1 hr1) ?_
 intro r7 u8
 refine la 5 ((7, .int .i64 _) :: (6, .int .i64 _) :: (15, .int .i64 _) :: (14, .int .i64 _) :: (9, .tuple _) :: _) rfl <| nn <| cm_seq <| cm_seq <| cm_cutE [(27, .bool (((decide (r7.2 ≠ 0)) || (decide (p1.ID < 1))) || (decide (1000000 < p1.ID))))] ?_ ?_
 ·refine qa 1 ((16, .int .i64 _) :: _) rfl <| qd 17 (fun _ _ => op_neq rfl rfl) (fun h9 => ?_) (fun h9 => ?_)
  ·refine qa 10 ((27, .bool true) :: (26, undef) :: (25, undef) :: (24, undef) :: (23, .bool true) :: (22, .bool true) :: (21, undef) :: (20, undef) :: (19, undef) :: (18, .bool true) :: _) rfl ?_
   exact leaf_q (sub_out 12 _ rfl (by kernel_rfl) ⟨(congrArg Value.bool (by rw [decide_eq_true h9] <;> rfl)), trivial⟩)
  ·refine qa 1 ((18, .bool false) :: _) rfl <| q_ 19 (fun _ _ => oF 0 0 rfl) <| q_ 20 (fun _ c1 => oL (c1.cell 0 (u := .int .i64 _) rfl rfl)) <| qd 21 (fun _ _ => op_lss rfl rfl) (fun b => ?_) (fun b => ?_)
   ·refine qa 6 ((27, .bool true) :: (26, undef) :: (25, undef) :: (24, undef) :: (23, .bool true) :: (22, .bool true) :: _) rfl ?_
    exact leaf_q (sub_out 12 _ rfl (by kernel_rfl) ⟨(congrArg Value.bool (by rw [decide_eq_false h9, decide_eq_true b] <;> rfl)), trivial⟩)
   ·refine qa 2 ((23, .bool false) :: (22, .bool false) :: _) rfl <| q_ 24 (fun _ _ => oF 0 0 rfl) <| q_ 25 (fun _ c1 => oL (c1.cell 0 (u := .int .i64 _) rfl rfl)) <| qa 2 ((27, .bool _) :: (26, .bool _) :: _) rfl ?_
    exact leaf_q (sub_out 12 _ rfl (by kernel_rfl) ⟨(congrArg Value.bool (by rw [decide_eq_false h9, decide_eq_false b] <;> rfl)), trivial⟩)
 refine xm_next <| cm_condB (by kernel_rfl) rfl (fun e => ?_) (fun e => ?_)
 ·refine sr <| la 2 ((5, .int .i64 _) :: (4, .slice _ _ _) :: _) rfl <| nn <| cm_ret <| xm_thenR <| xm_nilrow 100 5 encApiItem ?_
  exact xm_retTT rfl (by kernel_rfl) (show _ = Value.slice _ _ _ from rfl) (by kernel_rfl) (show _ = Value.int .i64 _ from rfl) fun w1 c1 => ⟨(none, 0, 0), rfl, hsub [0] (by kernel_rfl) rfl w1 c1⟩
 ·refine sk <| sr <| v_ 28 (fun _ _ => oF 0 0 rfl) <| v_ 29 (fun _ c1 => oL (c1.cell 0 (u := .int .i64 _) rfl rfl)) <| v_ 30 (fun _ _ => oF 2 2 rfl) <| v_ 31 (fun _ c1 => oL (c1.cell 1 (u := .int .i64 _) rfl rfl)) <| v_ 32 (fun _ _ => oF 2 2 rfl) <| v_ 33 (fun _ c1 => oL (c1.cell 1 (u := .int .i64 _) rfl rfl)) <| v_ 34 (fun _ _ => op_build (z := [.int .i64 0, .int .i64 0, .int .i64 0, .int .i64 0, .int .i64 0]) (tab := [(0, 1), (1, 1), (2, 1), (3, 1), (4, 1)]) (cs := [.int .i64 _, .int .i64 _, .int .i64 _, .int .i64 _, .int .i64 _]) [(0, [.int .i64 _]), (1, [.int .i64 _]), (2, [.int .i64 _]), (3, [.int .i64 _]), (4, [.int .i64 _])] (by kernel_rfl) (by kernel_rfl) (fillOk_cons rfl rfl rfl (fillOk_cons rfl rfl rfl (fillOk_cons rfl rfl rfl (fillOk_cons rfl rfl rfl (fillOk_cons rfl rfl rfl fillOk_nil))))) rfl) <| lm_slice1 35 (el := 100) (sz := 5) (bytes := 40) (enc := encApiItem) (ApiItem.mk 2 p1.ID 1 p0.Empty p0.Empty) (by kernel_rfl) (by kernel_rfl) encApiItem_len rfl (by kernel_rfl) ?_
  intro f g i v
  refine la 1 ((8, .slice _ _ _) :: _) rfl <| nn <| cm_join (σ := (List ApiItem)) (ξ := (Option Addr) × Nat × Nat) (fun d a => [(8, .slice a.1 a.2.1 a.2.2)]) (fun d a => [ownE 100 5 encApiItem a.1 a.2.1 a.2.2 d]) ?_ ?_
  ·refine sr <| la 2 ((37, .bool _) :: (36, .int .i64 _) :: _) rfl <| nn <| cm_cond (by kernel_rfl) rfl (fun j => ?_) (fun j => ?_)
   ·refine cm_region <| la 1 ((38, .slice _ _ _) :: _) rfl <| v_ 39 (fun _ _ => oF 0 0 rfl) <| v_ 40 (fun _ c1 => oL (c1.cell 1 (u := .int .i64 _) rfl rfl)) <| la 1 ((41, .int .i64 _) :: _) rfl <| v_ 42 (fun _ _ => oF 3 3 rfl) <| v_ 43 (fun _ c1 => oL (c1.cell 2 (u := .int .i64 _) rfl rfl)) <| la 1 ((44, .int .i64 _) :: _) rfl <| v_ 45 (fun _ _ => oF 3 3 rfl) <| v_ 46 (fun _ c1 => oL (c1.cell 2 (u := .int .i64 _) rfl rfl)) <| lm_ck (fun l => ?_)
    refine v_ 47 (fun _ _ => op_mul rfl rfl l) <| v_ 48 (fun _ _ => op_build (z := [.int .i64 0, .int .i64 0, .int .i64 0, .int .i64 0, .int .i64 0]) (tab := [(0, 1), (1, 1), (2, 1), (3, 1), (4, 1)]) (cs := [.int .i64 _, .int .i64 _, .int .i64 _, .int .i64 _, .int .i64 _]) [(0, [.int .i64 _]), (1, [.int .i64 _]), (2, [.int .i64 _]), (3, [.int .i64 _]), (4, [.int .i64 _])] (by kernel_rfl) (by kernel_rfl) (fillOk_cons rfl rfl rfl (fillOk_cons rfl rfl rfl (fillOk_cons rfl rfl rfl (fillOk_cons rfl rfl rfl (fillOk_cons rfl rfl rfl fillOk_nil))))) rfl) <| lm_slice1 49 (el := 100) (sz := 5) (bytes := 40) (enc := encApiItem) (ApiItem.mk 3 p1.ID r7.1 p0.Kilo (r7.1 * p0.Kilo)) (by kernel_rfl) (by kernel_rfl) encApiItem_len rfl (by kernel_rfl) ?_
    intro x y B C
    refine lm_ck (fun m => ?_)
    refine lm_append 50 1 (el := 100) (sz := 5) (bytes := 40) (enc := encApiItem) (l2 := ([(ApiItem.mk 3 p1.ID r7.1 p0.Kilo (r7.1 * p0.Kilo))])) (by kernel_rfl) (by kernel_rfl) encApiItem_len encApiItem_one rfl rfl rfl (fun w1 c1 => (c1.ownZ 0 rfl)) (fun w1 c1 => (c1.own 0 rfl encApiItem_len)) m ?_ (by kernel_rfl)
    intro o q t
    refine la 1 ((8, .slice _ _ _) :: _) rfl <| lm_nil ?_
    exact xm_lnext (o, q, t) sq (sh [1])
   ·refine cm_skip ?_
    exact xm_lnext (f, g, i) sq (sh [0])
  intro d a
  refine sr <| la 3 ((5, .int .i64 _) :: (4, .slice _ _ _) :: (51, .slice _ _ _) :: _) rfl <| nn <| cm_ret ?_
  exact xm_retTT rfl (by kernel_rfl) (show _ = Value.slice _ _ _ from rfl) (by kernel_rfl) (show _ = Value.int .i64 _ from rfl) fun w1 c1 => ⟨(a.1, a.2.1, a.2.2), rfl, hsub [0] (by kernel_rfl) rfl w1 c1⟩
/-- recyclingref53.Base -/
def m_recyclingref53_Base (N : Nat) (p0 : (List ApiTariff)) (p1 : ApiWindow) : Option ((List ApiItem) × Int) :=
 Option.bind (m_recyclingref53_Check N p0) fun r6 => (if r6 ≠ 0 then
  some ((([] : List ApiItem), r6))
 else
  (if (((decide (p1.From < 0)) || (decide (p1.To < p1.From))) || (decide (36525 < p1.To))) = true then
   some ((([] : List ApiItem), (1 : Int)))
  else
   ck (decide (p1.From < p1.To) = true → (0 : Int) ≤ 0 ∧ 0 < (List.length p0 : Int)) (
    (if ((decide (p1.From < p1.To)) && (decide (p1.From < (ix p0 0).From))) = true then
     some ((([] : List ApiItem), (7 : Int)))
    else
     (andThen
      (loopM (fun (a : (List ApiItem) × Int) =>
       (if a.2 < (List.length p0 : Int) then
        (andThen
         (andThen
          (loopM (fun (b : Int × Int) =>
           (if b.2 < p1.To then
            (andThen
             (ck ((0 : Int) ≤ a.2 ∧ a.2 < (List.length p0 : Int)) (
              ck (decide ((ix p0 a.2).From ≤ b.2) = true → I64 (a.2 + (1 : Int))) (
               ck (((decide ((ix p0 a.2).From ≤ b.2)) && (!(decide ((a.2 + (1 : Int)) = (List.length p0 : Int))))) = true → I64 (a.2 + (1 : Int))) (
                ck (((decide ((ix p0 a.2).From ≤ b.2)) && (!(decide ((a.2 + (1 : Int)) = (List.length p0 : Int))))) = true → (0 : Int) ≤ (a.2 + (1 : Int)) ∧ (a.2 + (1 : Int)) < (List.length p0 : Int)) (
                 (if ((decide ((ix p0 a.2).From ≤ b.2)) && ((decide ((a.2 + (1 : Int)) = (List.length p0 : Int))) || (decide (b.2 < (ix p0 (a.2 + (1 : Int))).From)))) = true then
                  ck (I64 (b.1 + (1 : Int))) (
                   some (.next (b.1 + (1 : Int))))
                 else
                  some (.next b.1)))))))
            fun (e : Int) =>
             ck (I64 (b.2 + (1 : Int))) (
              some (.next (e, (b.2 + (1 : Int))))))
           else
            some (.done (.next b.1)))) N ((0 : Int), p1.From))
         fun (d : Int) =>
          (if 0 < d then
           ck ((0 : Int) ≤ a.2 ∧ a.2 < (List.length p0 : Int)) (
            ck ((0 : Int) ≤ a.2 ∧ a.2 < (List.length p0 : Int)) (
             ck (I64 (d * ((ix p0 a.2).Base))) (
              ck ((List.length a.1 + List.length ([(ApiItem.mk 1 a.2 d ((ix p0 a.2).Base) (d * ((ix p0 a.2).Base)))])) * 40 ≤ 140737488355328) (
               some (.next (a.1 ++ ([(ApiItem.mk 1 a.2 d ((ix p0 a.2).Base) (d * ((ix p0 a.2).Base)))])))))))
          else
           some (.next a.1)))
        fun (f : (List ApiItem)) =>
         ck (I64 (a.2 + (1 : Int))) (
          some (.next (f, (a.2 + (1 : Int))))))
       else
        some (.done (.next a.1)))) N (([] : List ApiItem), (0 : Int)))
     fun (g : (List ApiItem)) =>
      some ((g, (0 : Int))))))))
set_option maxHeartbeats 2000000 in
set_option maxRecDepth 20000 in
theorem m_recyclingref53_Base_ok (N : Nat) (w0 : World) (p0 : (List ApiTariff)) (p1 : ApiWindow) (x : Option Addr) (y : Nat) (B : Nat) (e : RdE w0 5 encApiTariff x p0) (t : SW x y B (List.length p0)) (r : (List ApiItem) × Int) (hr : m_recyclingref53_Base N p0 p1 = some r) :
  Ret Tryz.prog 97 [.slice x y B, .agg #[.int .i64 p1.From, .int .i64 p1.To]] w0 (fun (r : (List ApiItem) × Int) (u : (Option Addr) × Nat × Nat) => .tuple #[.slice u.1 u.2.1 u.2.2, .int .i64 r.2]) (fun (r : (List ApiItem) × Int) (u : (Option Addr) × Nat × Nat) => [ownE 100 5 encApiItem u.1 u.2.1 u.2.2 r.1]) r := by
 refine calls_v (n := 106) r hr Tryz.func97 ?_
 unfold m_recyclingref53_Base
 refine sr <| lm_box 3 [.int .i64 _, .int .i64 _] (by kernel_rfl) rfl ?_
 intro b5
 refine la 2 ((5, .int .i64 _) :: (4, .slice _ _ _) :: _) rfl <| nn <| sr <| la 1 ((11, .slice _ _ _) :: _) rfl <| lm_call 12 (V := (fun (r : Int) (_u : Unit) => .int .i64 r)) (HR := (fun (_r : Int) (_u : Unit) => [])) (by kernel_rfl) (fun w1 => op_call (by kernel_rfl)) (fun r1 hr1 w1 c1 => m_recyclingref53_Check_ok N w1 p0 x y B (e.old c1) t r1 hr1) ?_
 intro r6 u7
 refine la 1 ((6, .int .i64 _) :: _) rfl <| nn <| cm_seq <| sr <| la 2 ((14, .bool _) :: (13, .int .i64 _) :: _) rfl <| nn <| cm_cond (by kernel_rfl) rfl (fun h8 => ?_) (fun h8 => ?_)
 ·refine sr <| la 3 ((5, .int .i64 _) :: (4, .slice _ _ _) :: (15, .int .i64 _) :: _) rfl <| nn <| cm_ret <| xm_thenR <| xm_nilrow 100 5 encApiItem ?_
  exact xm_retTT rfl (by kernel_rfl) (show _ = Value.slice _ _ _ from rfl) (by kernel_rfl) (show _ = Value.int .i64 _ from rfl) fun w1 c1 => ⟨(none, 0, 0), rfl, hsub [0] (by kernel_rfl) rfl w1 c1⟩
 ·refine sk <| cm_seq <| cm_seq <| cm_cutE [(30, .bool (((decide (p1.From < 0)) || (decide (p1.To < p1.From))) || (decide (36525 < p1.To))))] ?_ ?_
  ·refine q_ 16 (fun _ _ => oF 0 0 rfl) <| q_ 17 (fun _ c1 => oL (c1.cell 0 (u := .int .i64 _) rfl rfl)) <| qd 18 (fun _ _ => op_lss rfl rfl) (fun h9 => ?_) (fun h9 => ?_)
   ·refine qa 12 ((30, .bool true) :: (29, undef) :: (28, undef) :: (27, undef) :: (26, .bool true) :: (25, .bool true) :: (24, undef) :: (23, undef) :: (22, undef) :: (21, undef) :: (20, undef) :: (19, .bool true) :: _) rfl ?_
    exact leaf_q (sub_out 15 _ rfl (by kernel_rfl) ⟨(congrArg Value.bool (by rw [decide_eq_true h9] <;> rfl)), trivial⟩)
   ·refine qa 1 ((19, .bool false) :: _) rfl <| q_ 20 (fun _ _ => oF 0 0 rfl) <| q_ 21 (fun _ c1 => oL (c1.cell 0 (u := .int .i64 _) rfl rfl)) <| q_ 22 (fun _ _ => oF 1 1 rfl) <| q_ 23 (fun _ c1 => oL (c1.cell 0 (u := .int .i64 _) rfl rfl)) <| qd 24 (fun _ _ => op_gtr rfl rfl) (fun a3 => ?_) (fun a3 => ?_)
    ·refine qa 6 ((30, .bool true) :: (29, undef) :: (28, undef) :: (27, undef) :: (26, .bool true) :: (25, .bool true) :: _) rfl ?_
     exact leaf_q (sub_out 15 _ rfl (by kernel_rfl) ⟨(congrArg Value.bool (by rw [decide_eq_false h9, decide_eq_true a3] <;> rfl)), trivial⟩)
    ·refine qa 2 ((26, .bool false) :: (25, .bool false) :: _) rfl <| q_ 27 (fun _ _ => oF 1 1 rfl) <| q_ 28 (fun _ c1 => oL (c1.cell 0 (u := .int .i64 _) rfl rfl)) <| qa 2 ((30, .bool _) :: (29, .bool _) :: _) rfl ?_
     exact leaf_q (sub_out 15 _ rfl (by kernel_rfl) ⟨(congrArg Value.bool (by rw [decide_eq_false h9, decide_eq_false a3] <;> rfl)), trivial⟩)
  refine xm_next <| cm_condB (by kernel_rfl) rfl (fun al => ?_) (fun al => ?_)
  ·refine sr <| la 2 ((5, .int .i64 _) :: (4, .slice _ _ _) :: _) rfl <| nn <| cm_ret <| xm_thenR <| xm_nilrow 100 5 encApiItem ?_
   exact xm_retTT rfl (by kernel_rfl) (show _ = Value.slice _ _ _ from rfl) (by kernel_rfl) (show _ = Value.int .i64 _ from rfl) fun w1 c1 => ⟨(none, 0, 0), rfl, hsub [0] (by kernel_rfl) rfl w1 c1⟩
  ·refine sk <| cm_seq <| cm_seq <| cm_ck (fun Z => ?_)
   refine cm_drawn [(44, .bool ((decide (p1.From < p1.To)) && (decide (p1.From < (ix p0 0).From))))] (by kernel_rfl) (by kernel_rfl) ?_ ?_
   ·refine q_ 31 (fun _ _ => oF 0 0 rfl) <| q_ 32 (fun _ c1 => oL (c1.cell 0 (u := .int .i64 _) rfl rfl)) <| q_ 33 (fun _ _ => oF 1 1 rfl) <| q_ 34 (fun _ c1 => oL (c1.cell 0 (u := .int .i64 _) rfl rfl)) <| qd 35 (fun _ _ => op_lss rfl rfl) (fun M => ?_) (fun M => ?_)
    ·refine qa 1 ((36, .bool true) :: _) rfl <| q_ 37 (fun _ _ => oF 0 0 rfl) <| q_ 38 (fun _ c1 => oL (c1.cell 0 (u := .int .i64 _) rfl rfl)) <| qa 1 ((39, .slice _ _ _) :: _) rfl <| q_ 40 (fun _ c1 => oI 5 rfl rfl ((e.old c1).addr (Z (by rw [decide_eq_true M] <;> rfl)).1 (Z (by rw [decide_eq_true M] <;> rfl)).2) t.2.2 (Z (by rw [decide_eq_true M] <;> rfl))) <| q_ 41 (fun _ _ => op_field0 rfl (by kernel_rfl)) <| q_ 42 (fun _ c1 => oL (v := .int .i64 ((ix p0 0).From)) ((e.old c1).cell0 (Z (by rw [decide_eq_true M] <;> rfl)).1 (Z (by rw [decide_eq_true M] <;> rfl)).2 rfl)) <| qa 2 ((44, .bool _) :: (43, .bool _) :: _) rfl ?_
     exact leaf_q (sub_out 14 _ rfl (by kernel_rfl) ⟨(congrArg Value.bool (by rw [decide_eq_true M] <;> rfl)), trivial⟩)
    ·refine qa 9 ((44, .bool false) :: (43, undef) :: (42, undef) :: (41, undef) :: (40, undef) :: (39, undef) :: (38, undef) :: (37, undef) :: (36, .bool false) :: _) rfl ?_
     exact leaf_q (sub_out 14 _ rfl (by kernel_rfl) ⟨(congrArg Value.bool (by rw [decide_eq_false M] <;> rfl)), trivial⟩)
   refine xm_next <| cm_condB (by kernel_rfl) rfl (fun am => ?_) (fun am => ?_)
   ·refine sr <| la 2 ((5, .int .i64 _) :: (4, .slice _ _ _) :: _) rfl <| nn <| cm_ret <| xm_thenR <| xm_nilrow 100 5 encApiItem ?_
    exact xm_retTT rfl (by kernel_rfl) (show _ = Value.slice _ _ _ from rfl) (by kernel_rfl) (show _ = Value.int .i64 _ from rfl) fun w1 c1 => ⟨(none, 0, 0), rfl, hsub [0] (by kernel_rfl) rfl w1 c1⟩
   ·refine sk <| sr <| la 1 ((7, .slice _ _ _) :: _) rfl <| nn <| cm_join (σ := (List ApiItem)) (ξ := (Option Addr) × Nat × Nat) (fun Q f => [(7, .slice f.1 f.2.1 f.2.2)]) (fun Q f => [ownE 100 5 encApiItem f.1 f.2.1 f.2.2 Q]) ?_ ?_
    ·refine sr <| la 1 ((8, .int .i64 _) :: _) rfl <| nn <| cm_block <| cm_nilrow 100 5 encApiItem <| cm_loop (σ := (List ApiItem) × Int) (ξ := (Option Addr) × Nat × Nat) (fun a b => [(0, .slice x y B), (3, .pointer (some ⟨b5, 0, none⟩)), (7, .slice b.1 b.2.1 b.2.2), (8, .int .i64 a.2)]) (fun a b => [blkE b5 49 [.int .i64 p1.From, .int .i64 p1.To], ownE 100 5 encApiItem b.1 b.2.1 b.2.2 a.1]) (none, 0, 0) ?_ ?_ ?_
     ·exact sq
     ·exact sh [1, 0]
     intro a b
     refine cm_seq <| sr <| la 2 ((46, .slice _ _ _) :: (45, .int .i64 _) :: _) rfl <| v_ 47 (fun _ _ => op_lenN rfl (by kernel_rfl) t.2.2) <| la 1 ((48, .bool _) :: _) rfl <| nn <| cm_cond (by kernel_rfl) rfl (fun a4 => ?_) (fun a4 => ?_)
     ·refine sk <| cm_join (σ := (List ApiItem)) (ξ := (Option Addr) × Nat × Nat) (fun U g => [(0, .slice x y B), (3, .pointer (some ⟨b5, 0, none⟩)), (7, .slice g.1 g.2.1 g.2.2), (8, .int .i64 a.2)]) (fun U g => [blkE b5 49 [.int .i64 p1.From, .int .i64 p1.To], ownE 100 5 encApiItem g.1 g.2.1 g.2.2 U]) ?_ ?_
      ·refine cm_block <| sr <| la 1 ((9, .int .i64 _) :: _) rfl <| nn <| cm_join (σ := Int) (ξ := Unit) (fun i a0 => [(0, .slice x y B), (3, .pointer (some ⟨b5, 0, none⟩)), (7, .slice b.1 b.2.1 b.2.2), (8, .int .i64 a.2), (9, .int .i64 i)]) (fun i a0 => [blkE b5 49 [.int .i64 p1.From, .int .i64 p1.To], ownE 100 5 encApiItem b.1 b.2.1 b.2.2 a.1]) ?_ ?_
       ·refine sr <| v_ 51 (fun _ _ => oF 0 0 rfl) <| v_ 52 (fun _ c1 => oL (c1.cell 0 (u := .int .i64 _) rfl rfl)) <| la 1 ((10, .int .i64 _) :: _) rfl <| nn <| cm_block <| cm_loop (σ := Int × Int) (ξ := Unit) (fun C a1 => [(0, .slice x y B), (3, .pointer (some ⟨b5, 0, none⟩)), (7, .slice b.1 b.2.1 b.2.2), (8, .int .i64 a.2), (9, .int .i64 C.1), (10, .int .i64 C.2)]) (fun C a1 => [blkE b5 49 [.int .i64 p1.From, .int .i64 p1.To], ownE 100 5 encApiItem b.1 b.2.1 b.2.2 a.1]) () ?_ ?_ ?_
        ·exact sq
        ·exact sh [0, 1]
        intro C a1
        refine cm_seq <| sr <| la 1 ((53, .int .i64 _) :: _) rfl <| v_ 54 (fun _ _ => oF 1 1 rfl) <| v_ 55 (fun _ c1 => oL (c1.cell 0 (u := .int .i64 _) rfl rfl)) <| la 1 ((56, .bool _) :: _) rfl <| nn <| cm_cond (by kernel_rfl) rfl (fun a5 => ?_) (fun a5 => ?_)
        ·refine sk <| cm_join (σ := Int) (ξ := Unit) (fun X a2 => [(0, .slice x y B), (3, .pointer (some ⟨b5, 0, none⟩)), (7, .slice b.1 b.2.1 b.2.2), (8, .int .i64 a.2), (9, .int .i64 X), (10, .int .i64 C.2)]) (fun X a2 => [blkE b5 49 [.int .i64 p1.From, .int .i64 p1.To], ownE 100 5 encApiItem b.1 b.2.1 b.2.2 a.1]) ?_ ?_
         ·refine cm_block <| cm_seq <| cm_ck (fun K => ?_)
          refine cm_ck (fun a6 => ?_)
          refine cm_ck (fun a7 => ?_)
          refine cm_ck (fun L => ?_)
          refine cm_cutE [(82, .bool ((decide ((ix p0 a.2).From ≤ C.2)) && ((decide ((a.2 + (1 : Int)) = (List.length p0 : Int))) || (decide (C.2 < (ix p0 (a.2 + (1 : Int))).From)))))] ?_ ?_
          ·refine qa 3 ((61, .int .i64 _) :: (60, .slice _ _ _) :: (59, .int .i64 _) :: _) rfl <| q_ 62 (fun _ c1 => oI 5 rfl rfl ((e.old c1).addr K.1 K.2) t.2.2 K) <| q_ 63 (fun _ _ => op_field0 rfl (by kernel_rfl)) <| q_ 64 (fun _ c1 => oL (v := .int .i64 ((ix p0 a.2).From)) ((e.old c1).cell0 K.1 K.2 rfl)) <| qd 65 (fun _ _ => op_geq rfl rfl) (fun l => ?_) (fun l => ?_)
           ·refine qa 2 ((67, .int .i64 _) :: (66, .bool true) :: _) rfl <| q_ 68 (fun _ _ => op_add rfl rfl (a6 (by rw [decide_eq_true l] <;> rfl))) <| qa 1 ((69, .slice _ _ _) :: _) rfl <| q_ 70 (fun _ _ => op_lenN rfl (by kernel_rfl) t.2.2) <| qd 71 (fun _ _ => op_eql rfl rfl) (fun q => ?_) (fun q => ?_)
            ·refine qa 11 ((82, .bool true) :: (81, .bool true) :: (80, undef) :: (79, undef) :: (78, undef) :: (77, undef) :: (76, undef) :: (75, undef) :: (74, undef) :: (73, undef) :: (72, .bool true) :: _) rfl ?_
             exact leaf_q (sub_out 24 _ rfl (by kernel_rfl) ⟨(congrArg Value.bool (by rw [decide_eq_true l, decide_eq_true q] <;> rfl)), trivial⟩)
            ·refine qa 4 ((75, .int .i64 _) :: (74, .slice _ _ _) :: (73, .int .i64 _) :: (72, .bool false) :: _) rfl <| q_ 76 (fun _ _ => op_add rfl rfl (a7 (by rw [decide_eq_true l, decide_eq_false q] <;> rfl))) <| q_ 77 (fun _ c1 => oI 5 rfl rfl ((e.old c1).addr (L (by rw [decide_eq_true l, decide_eq_false q] <;> rfl)).1 (L (by rw [decide_eq_true l, decide_eq_false q] <;> rfl)).2) t.2.2 (L (by rw [decide_eq_true l, decide_eq_false q] <;> rfl))) <| q_ 78 (fun _ _ => op_field0 rfl (by kernel_rfl)) <| q_ 79 (fun _ c1 => oL (v := .int .i64 ((ix p0 (a.2 + (1 : Int))).From)) ((e.old c1).cell0 (L (by rw [decide_eq_true l, decide_eq_false q] <;> rfl)).1 (L (by rw [decide_eq_true l, decide_eq_false q] <;> rfl)).2 rfl)) <| qa 3 ((82, .bool _) :: (81, .bool _) :: (80, .bool _) :: _) rfl ?_
             exact leaf_q (sub_out 24 _ rfl (by kernel_rfl) ⟨(congrArg Value.bool (by rw [decide_eq_true l, decide_eq_false q] <;> rfl)), trivial⟩)
           ·refine qa 17 ((82, .bool false) :: (81, undef) :: (80, undef) :: (79, undef) :: (78, undef) :: (77, undef) :: (76, undef) :: (75, undef) :: (74, undef) :: (73, undef) :: (72, undef) :: (71, undef) :: (70, undef) :: (69, undef) :: (68, undef) :: (67, undef) :: (66, .bool false) :: _) rfl ?_
            exact leaf_q (sub_out 24 _ rfl (by kernel_rfl) ⟨(congrArg Value.bool (by rw [decide_eq_false l] <;> rfl)), trivial⟩)
          refine xm_next <| cm_condB (by kernel_rfl) rfl (fun a8 => ?_) (fun a8 => ?_)
          ·refine cm_region <| la 1 ((83, .int .i64 _) :: _) rfl <| lm_ck (fun a9 => ?_)
           refine v_ 84 (fun _ _ => op_add rfl rfl a9) <| la 1 ((9, .int .i64 _) :: _) rfl <| lm_nil <| xm_inN ?_
           exact xm_lnext () sq (sh [0, 1])
          ·refine cm_skip <| xm_inN ?_
           exact xm_lnext () sq (sh [0, 1])
         intro X a2
         refine cm_region <| la 1 ((57, .int .i64 _) :: _) rfl <| lm_ck (fun aa => ?_)
         refine v_ 58 (fun _ _ => op_add rfl rfl aa) <| la 1 ((10, .int .i64 _) :: _) rfl <| lm_nil ?_
         exact xm_lnext () sq (sh [0, 1])
        ·refine cm_exit <| xm_thenE <| xm_lexit <| xm_here ?_
         exact xm_lnext () sq (sh [0, 1])
       intro i a0
       refine sr <| la 2 ((86, .bool _) :: (85, .int .i64 _) :: _) rfl <| nn <| cm_cond (by kernel_rfl) rfl (fun ab => ?_) (fun ab => ?_)
       ·refine cm_ck (fun G => ?_)
        refine cm_ck (fun J => ?_)
        refine cm_ck (fun ac => ?_)
        refine cm_ck (fun ad => ?_)
        refine cm_of_then <| cm_held (ξ := (Option Addr) × Nat × Nat) (fun o => [(0, .slice x y B), (3, .pointer (some ⟨b5, 0, none⟩)), (7, .slice o.1 o.2.1 o.2.2), (8, .int .i64 a.2)]) (fun o => [blkE b5 49 [.int .i64 p1.From, .int .i64 p1.To], ownE 100 5 encApiItem o.1 o.2.1 o.2.2 (a.1 ++ ([(ApiItem.mk 1 a.2 i ((ix p0 a.2).Base) (i * ((ix p0 a.2).Base)))]))]) [blkE b5 49 [.int .i64 p1.From, .int .i64 p1.To]] 19 (by kernel_rfl) (by rfl) (hsub [0] (by kernel_rfl) (by rfl)) ?_ ?_
        ·intro an d
         refine wh_take 0 87 rfl (by kernel_rfl) (by kernel_rfl) (fun w2 c2 => (op_move (v := .slice _ _ _) rfl)) (hsub [0] (by kernel_rfl) rfl _ d) <| wh_take 1 88 rfl (by kernel_rfl) (by kernel_rfl) (fun w2 c2 => (op_move (v := .int .i64 _) rfl)) (hsub [0] (by kernel_rfl) rfl _ d) <| wh_take 2 89 rfl (by kernel_rfl) (by kernel_rfl) (fun w2 c2 => (op_move (v := .int .i64 _) rfl)) (hsub [0] (by kernel_rfl) rfl _ d) <| wh_take 3 90 rfl (by kernel_rfl) (by kernel_rfl) (fun w2 c2 => (op_move (v := .slice _ _ _) rfl)) (hsub [0] (by kernel_rfl) rfl _ d) <| wh_take 4 91 rfl (by kernel_rfl) (by kernel_rfl) (fun w2 c2 => (op_move (v := .int .i64 _) rfl)) (hsub [0] (by kernel_rfl) rfl _ d) <| wh_take 5 92 rfl (by kernel_rfl) (by kernel_rfl) (fun w2 c2 => (op_indexA 5 rfl rfl (by kernel_rfl) ((e.old c2).addr G.1 G.2) t.2.2 G.1 G.2)) (hsub [0] (by kernel_rfl) rfl _ d) <| wh_take 6 93 rfl (by kernel_rfl) (by kernel_rfl) (fun w2 c2 => (op_field (m := 1) rfl (by kernel_rfl))) (hsub [0] (by kernel_rfl) rfl _ d) <| wh_take 7 94 rfl (by kernel_rfl) (by kernel_rfl) (fun w2 c2 => (op_load (v := .int .i64 ((ix p0 a.2).Base)) rfl (by kernel_rfl) ((e.old c2).cell (j := 1) G.1 G.2 rfl))) (hsub [0] (by kernel_rfl) rfl _ d) <| wh_take 8 95 rfl (by kernel_rfl) (by kernel_rfl) (fun w2 c2 => (op_move (v := .int .i64 _) rfl)) (hsub [0] (by kernel_rfl) rfl _ d) <| wh_take 9 96 rfl (by kernel_rfl) (by kernel_rfl) (fun w2 c2 => (op_move (v := .slice _ _ _) rfl)) (hsub [0] (by kernel_rfl) rfl _ d) <| wh_take 10 97 rfl (by kernel_rfl) (by kernel_rfl) (fun w2 c2 => (op_move (v := .int .i64 _) rfl)) (hsub [0] (by kernel_rfl) rfl _ d) <| wh_take 11 98 rfl (by kernel_rfl) (by kernel_rfl) (fun w2 c2 => (op_indexA 5 rfl rfl (by kernel_rfl) ((e.old c2).addr J.1 J.2) t.2.2 J.1 J.2)) (hsub [0] (by kernel_rfl) rfl _ d) ?_
         refine wh_take 12 99 rfl (by kernel_rfl) (by kernel_rfl) (fun w2 c2 => (op_field (m := 1) rfl (by kernel_rfl))) (hsub [0] (by kernel_rfl) rfl _ d) <| wh_take 13 100 rfl (by kernel_rfl) (by kernel_rfl) (fun w2 c2 => (op_load (v := .int .i64 ((ix p0 a.2).Base)) rfl (by kernel_rfl) ((e.old c2).cell (j := 1) J.1 J.2 rfl))) (hsub [0] (by kernel_rfl) rfl _ d) <| wh_take 14 101 rfl (by kernel_rfl) (by kernel_rfl) (fun w2 c2 => (op_mul rfl rfl ac)) (hsub [0] (by kernel_rfl) rfl _ d) <| wh_take 15 102 rfl (by kernel_rfl) (by kernel_rfl) (fun w2 c2 => (op_build (z := [.int .i64 0, .int .i64 0, .int .i64 0, .int .i64 0, .int .i64 0]) (tab := [(0, 1), (1, 1), (2, 1), (3, 1), (4, 1)]) (cs := [.int .i64 _, .int .i64 _, .int .i64 _, .int .i64 _, .int .i64 _]) [(0, [.int .i64 _]), (1, [.int .i64 _]), (2, [.int .i64 _]), (3, [.int .i64 _]), (4, [.int .i64 _])] (by kernel_rfl) (by kernel_rfl) (fillOk_cons rfl rfl rfl (fillOk_cons rfl rfl rfl (fillOk_cons rfl rfl rfl (fillOk_cons rfl rfl rfl (fillOk_cons rfl rfl rfl fillOk_nil))))) rfl)) (hsub [0] (by kernel_rfl) rfl _ d) <| wh_ready [16] (by kernel_rfl) rfl ⟨?_, trivial⟩
         refine ws_sliceN 103 (el := 100) (sz := 5) (bytes := 40) (enc := encApiItem) [(ApiItem.mk 1 a.2 i ((ix p0 a.2).Base) (i * ((ix p0 a.2).Base)))] rfl (by kernel_rfl) (by kernel_rfl) encApiItem_len rfl ⟨rfl, rfl, trivial⟩ (by kernel_rfl) (by kernel_rfl) d ?_
         intro ae af ag ao O
         refine ⟨(hsub [1] (by kernel_rfl) rfl _ O), ?_⟩
         refine wh_strong (Hs w0 [ownE 100 5 encApiItem ae af ag ([(ApiItem.mk 1 a.2 i ((ix p0 a.2).Base) (i * ((ix p0 a.2).Base)))]), blkE b5 49 [.int .i64 p1.From, .int .i64 p1.To]]) (fun w2 c2 => hsub [1] (by kernel_rfl) rfl w2 c2) <| wh_ready [17] (by kernel_rfl) rfl ⟨?_, trivial⟩
         refine ws_append 104 2 (el := 100) (sz := 5) (bytes := 40) (enc := encApiItem) (l2 := ([(ApiItem.mk 1 a.2 i ((ix p0 a.2).Base) (i * ((ix p0 a.2).Base)))])) rfl (by kernel_rfl) (by kernel_rfl) encApiItem_len encApiItem_one rfl rfl rfl (O.ownZ 0 rfl) (O.own 0 rfl encApiItem_len) ad (by kernel_rfl) O ?_
         intro ah ai aj ap Y
         refine ⟨(hsub [0, 1] (by kernel_rfl) rfl _ Y), ?_⟩
         refine wh_take 18 7 rfl (by kernel_rfl) (by kernel_rfl) (fun w2 c2 => (op_assign (v := .slice _ _ _) rfl)) (hsub [0, 1] (by kernel_rfl) rfl _ Y) ?_
         exact wh_done (ah, ai, aj) (by kernel_rfl) sq (hsub [1, 2] (by kernel_rfl) rfl _ Y)
        intro o
        refine xm_of_then <| xm_inN ?_
        exact xm_lnext (o.1, o.2.1, o.2.2) sq (sh [0, 1])
       ·refine cm_skip <| xm_inN ?_
        exact xm_lnext (b.1, b.2.1, b.2.2) sq (sh [0, 1])
      intro U g
      refine cm_region <| la 1 ((49, .int .i64 _) :: _) rfl <| lm_ck (fun ak => ?_)
      refine v_ 50 (fun _ _ => op_add rfl rfl ak) <| la 1 ((8, .int .i64 _) :: _) rfl <| lm_nil ?_
      exact xm_lnext (g.1, g.2.1, g.2.2) sq (sh [0, 1])
     ·refine cm_exit <| xm_thenE <| xm_lexit <| xm_here ?_
      exact xm_lnext (b.1, b.2.1, b.2.2) sq (sh [1])
    intro Q f
    refine sr <| la 3 ((5, .int .i64 _) :: (4, .slice _ _ _) :: (105, .slice _ _ _) :: _) rfl <| nn <| cm_ret ?_
    exact xm_retTT rfl (by kernel_rfl) (show _ = Value.slice _ _ _ from rfl) (by kernel_rfl) (show _ = Value.int .i64 _ from rfl) fun w1 c1 => ⟨(f.1, f.2.1, f.2.2), rfl, hsub [0] (by kernel_rfl) rfl w1 c1⟩
end Go.Proofs.YtbnimhmoffchdaaGreatDoor
