/- Models of functions, and that the code follows them. Written by deco.py. -/
import Derived.Test.YtpbgfdmkebnjgaaGreatDoorBR2
namespace Go.Proofs.YtpbgfdmkebnjgaaGreatDoor
open Go.RowKit
set_option linter.unusedSectionVars false
variable [JF]

/-- recyclingref18.ordered -/
def m_recyclingref18_ordered (N : Nat) (p0 : (List ApiEmptying)) : Option ((List Int)) :=
 (andThen
  (loopM (fun (s726 : (List Int) × Int) =>
   (if s726.2 < (List.length p0 : Int) then
    (andThen
     (loopM (fun (s826 : Int) =>
      ck (decide (0 < s826) = true → (0 : Int) ≤ s726.2 ∧ s726.2 < (List.length p0 : Int)) (
       ck (decide (0 < s826) = true → I64 (s826 - (1 : Int))) (
        ck (decide (0 < s826) = true → (0 : Int) ≤ (s826 - (1 : Int)) ∧ (s826 - (1 : Int)) < (List.length s726.1 : Int)) (
         ck (decide (0 < s826) = true → (0 : Int) ≤ (ix s726.1 (s826 - (1 : Int))) ∧ (ix s726.1 (s826 - (1 : Int))) < (List.length p0 : Int)) (
          ck (((decide (0 < s826)) && (!(decide ((ix p0 s726.2).At < (ix p0 (ix s726.1 (s826 - (1 : Int)))).At)))) = true → (0 : Int) ≤ s726.2 ∧ s726.2 < (List.length p0 : Int)) (
           ck (((decide (0 < s826)) && (!(decide ((ix p0 s726.2).At < (ix p0 (ix s726.1 (s826 - (1 : Int)))).At)))) = true → I64 (s826 - (1 : Int))) (
            ck (((decide (0 < s826)) && (!(decide ((ix p0 s726.2).At < (ix p0 (ix s726.1 (s826 - (1 : Int)))).At)))) = true → (0 : Int) ≤ (s826 - (1 : Int)) ∧ (s826 - (1 : Int)) < (List.length s726.1 : Int)) (
             ck (((decide (0 < s826)) && (!(decide ((ix p0 s726.2).At < (ix p0 (ix s726.1 (s826 - (1 : Int)))).At)))) = true → (0 : Int) ≤ (ix s726.1 (s826 - (1 : Int))) ∧ (ix s726.1 (s826 - (1 : Int))) < (List.length p0 : Int)) (
              ck ((((decide (0 < s826)) && (!(decide ((ix p0 s726.2).At < (ix p0 (ix s726.1 (s826 - (1 : Int)))).At)))) && (decide ((ix p0 s726.2).At = (ix p0 (ix s726.1 (s826 - (1 : Int)))).At))) = true → (0 : Int) ≤ s726.2 ∧ s726.2 < (List.length p0 : Int)) (
               ck ((((decide (0 < s826)) && (!(decide ((ix p0 s726.2).At < (ix p0 (ix s726.1 (s826 - (1 : Int)))).At)))) && (decide ((ix p0 s726.2).At = (ix p0 (ix s726.1 (s826 - (1 : Int)))).At))) = true → I64 (s826 - (1 : Int))) (
                ck ((((decide (0 < s826)) && (!(decide ((ix p0 s726.2).At < (ix p0 (ix s726.1 (s826 - (1 : Int)))).At)))) && (decide ((ix p0 s726.2).At = (ix p0 (ix s726.1 (s826 - (1 : Int)))).At))) = true → (0 : Int) ≤ (s826 - (1 : Int)) ∧ (s826 - (1 : Int)) < (List.length s726.1 : Int)) (
                 ck ((((decide (0 < s826)) && (!(decide ((ix p0 s726.2).At < (ix p0 (ix s726.1 (s826 - (1 : Int)))).At)))) && (decide ((ix p0 s726.2).At = (ix p0 (ix s726.1 (s826 - (1 : Int)))).At))) = true → (0 : Int) ≤ (ix s726.1 (s826 - (1 : Int))) ∧ (ix s726.1 (s826 - (1 : Int))) < (List.length p0 : Int)) (
                  (if ((decide (0 < s826)) && ((decide ((ix p0 s726.2).At < (ix p0 (ix s726.1 (s826 - (1 : Int)))).At)) || ((decide ((ix p0 s726.2).At = (ix p0 (ix s726.1 (s826 - (1 : Int)))).At)) && (decide ((ix p0 s726.2).ID < (ix p0 (ix s726.1 (s826 - (1 : Int)))).ID))))) = true then
                   ck (I64 (s826 - (1 : Int))) (
                    some (.next (s826 - (1 : Int))))
                  else
                   some (.done (.next s826)))))))))))))))) N (List.length s726.1 : Int))
    fun (s786 : Int) =>
     ck ((0 : Int) ≤ s786 ∧ s786 ≤ (List.length s726.1 : Int)) (
      ck ((List.length ([] : List Int) + List.length (List.drop (Int.toNat s786) s726.1)) * 8 ≤ 140737488355328) (
       ck ((0 : Int) ≤ s786 ∧ s786 ≤ (List.length s726.1 : Int)) (
        ck (0 < List.length ([s726.2])) (
         ck ((List.length (List.take (Int.toNat s786) s726.1) + List.length ([s726.2])) * 8 ≤ 140737488355328) (
          ck ((List.length ((List.take (Int.toNat s786) s726.1) ++ ([s726.2])) + List.length (([] : List Int) ++ (List.drop (Int.toNat s786) s726.1))) * 8 ≤ 140737488355328) (
           ck (I64 (s726.2 + (1 : Int))) (
            some (.next ((((List.take (Int.toNat s786) s726.1) ++ ([s726.2])) ++ (([] : List Int) ++ (List.drop (Int.toNat s786) s726.1))), (s726.2 + (1 : Int))))))))))))
   else
    some (.done (.next s726.1)))) N (([] : List Int), (0 : Int)))
 fun (s438 : (List Int)) =>
  some (s438))
set_option maxHeartbeats 2000000 in
set_option maxRecDepth 20000 in
theorem m_recyclingref18_ordered_ok (N : Nat) (w0 : World) (p0 : (List ApiEmptying)) (A_p0 : Option Addr) (n_p0 c_p0 : Nat) (hr_p0 : RdE w0 7 encApiEmptying A_p0 p0) (hz_p0 : SW A_p0 n_p0 c_p0 (List.length p0)) (r : (List Int)) (hr : m_recyclingref18_ordered N p0 = some r) :
  Ret Tryz.prog 118 [.slice A_p0 n_p0 c_p0] w0 (fun (_r : (List Int)) (u : (Option Addr) × Nat × Nat) => .slice u.1 u.2.1 u.2.2) (fun (r : (List Int)) (u : (Option Addr) × Nat × Nat) => [ownE 3 1 encI u.1 u.2.1 u.2.2 r]) r := by
 refine calls_v (n := 86) r hr Tryz.func118 ?_
 unfold m_recyclingref18_ordered
 refine sr ?_
 refine la 1 ((2, .slice _ _ _) :: _) rfl ?_
 refine nn ?_
 refine sr ?_
 refine lm_slice0 7 (el := 3) (sz := 1) (bytes := 8) (enc := encI) (by kernel_rfl) (by kernel_rfl) ?_
 intro A5 n6 k7 h8
 refine la 1 ((3, .slice _ _ _) :: _) rfl ?_
 refine nn ?_
 refine cm_join (σ := (List Int)) (ξ := (Option Addr) × Nat × Nat) (fun s438 u439 => [(3, .slice u439.1 u439.2.1 u439.2.2)]) (fun s438 u439 => [ownE 3 1 encI u439.1 u439.2.1 u439.2.2 s438]) ?_ ?_
 ·refine sr ?_
  refine la 1 ((4, .int .i64 _) :: _) rfl ?_
  refine nn ?_
  refine cm_block ?_
  refine cm_loop (σ := (List Int) × Int) (ξ := (Option Addr) × Nat × Nat) (fun s726 u727 => [(0, .slice A_p0 n_p0 c_p0), (3, .slice u727.1 u727.2.1 u727.2.2), (4, .int .i64 s726.2)]) (fun s726 u727 => [ownE 3 1 encI u727.1 u727.2.1 u727.2.2 s726.1]) (A5, n6, k7) ?_ ?_ ?_
  ·exact sq
  ·exact sh [0]
  intro s726 u727
  refine cm_seq ?_
  refine sr ?_
  refine la 2 ((9, .slice _ _ _) :: (8, .int .i64 _) :: _) rfl ?_
  refine v_ 10 (fun _ _ => op_lenN rfl (by kernel_rfl) hz_p0.2.2) ?_
  refine la 1 ((11, .bool _) :: _) rfl ?_
  refine nn ?_
  refine cm_cond (by kernel_rfl) rfl (fun h728 => ?_) (fun h728 => ?_)
  ·refine sk ?_
   refine cm_seq ?_
   refine cm_block ?_
   refine sr ?_
   refine la 1 ((14, .slice _ _ _) :: _) rfl ?_
   refine v_ 15 (fun _ c1 => op_lenN rfl (by kernel_rfl) (c1.ownZ 0 rfl).2.2) ?_
   refine la 1 ((5, .int .i64 _) :: _) rfl ?_
   refine nn ?_
   refine cm_join (σ := Int) (ξ := Unit) (fun s786 u787 => [(0, .slice A_p0 n_p0 c_p0), (3, .slice u727.1 u727.2.1 u727.2.2), (4, .int .i64 s726.2), (5, .int .i64 s786)]) (fun s786 u787 => [ownE 3 1 encI u727.1 u727.2.1 u727.2.2 s726.1]) ?_ ?_
   ·refine cm_block ?_
    refine cm_loop (σ := Int) (ξ := Unit) (fun s826 u827 => [(0, .slice A_p0 n_p0 c_p0), (3, .slice u727.1 u727.2.1 u727.2.2), (4, .int .i64 s726.2), (5, .int .i64 s826)]) (fun s826 u827 => [ownE 3 1 encI u727.1 u727.2.1 u727.2.2 s726.1]) () ?_ ?_ ?_
    ·exact sq
    ·exact sh [0]
    intro s826 u827
    refine cm_seq ?_
    refine cm_seq ?_
    refine cm_ck (fun h828 => ?_)
    refine cm_ck (fun h829 => ?_)
    refine cm_ck (fun h830 => ?_)
    refine cm_ck (fun h831 => ?_)
    refine cm_ck (fun h832 => ?_)
    refine cm_ck (fun h833 => ?_)
    refine cm_ck (fun h834 => ?_)
    refine cm_ck (fun h835 => ?_)
    refine cm_ck (fun h836 => ?_)
    refine cm_ck (fun h837 => ?_)
    refine cm_ck (fun h838 => ?_)
    refine cm_ck (fun h839 => ?_)
    refine cm_drawn [(68, .bool ((decide (0 < s826)) && ((decide ((ix p0 s726.2).At < (ix p0 (ix s726.1 (s826 - (1 : Int)))).At)) || ((decide ((ix p0 s726.2).At = (ix p0 (ix s726.1 (s826 - (1 : Int)))).At)) && (decide ((ix p0 s726.2).ID < (ix p0 (ix s726.1 (s826 - (1 : Int)))).ID))))))] (by kernel_rfl) (by kernel_rfl) ?_ ?_
    ·refine qa 1 ((16, .int .i64 _) :: _) rfl ?_
     refine qd 17 (fun _ _ => op_gtr rfl rfl) (fun h840 => ?_) (fun h840 => ?_)
     ·refine qa 3 ((20, .int .i64 _) :: (19, .slice _ _ _) :: (18, .bool true) :: _) rfl ?_
      refine q_ 21 (fun _ c1 => oI 7 rfl rfl ((hr_p0.old c1).addr (h828 (by rw [decide_eq_true h840] <;> rfl)).1 (h828 (by rw [decide_eq_true h840] <;> rfl)).2) hz_p0.2.2 (h828 (by rw [decide_eq_true h840] <;> rfl))) ?_
      refine q_ 22 (fun _ _ => op_field (m := 3) rfl (by kernel_rfl)) ?_
      refine q_ 23 (fun _ c1 => oL (v := .int .i64 ((ix p0 s726.2).At)) ((hr_p0.old c1).cell (j := 3) (h828 (by rw [decide_eq_true h840] <;> rfl)).1 (h828 (by rw [decide_eq_true h840] <;> rfl)).2 rfl)) ?_
      refine qa 3 ((26, .int .i64 _) :: (25, .slice _ _ _) :: (24, .slice _ _ _) :: _) rfl ?_
      refine q_ 27 (fun _ _ => op_sub rfl rfl (h829 (by rw [decide_eq_true h840] <;> rfl))) ?_
      refine q_ 28 (fun _ c1 => oI 1 rfl rfl ((c1.own 0 rfl encI_len).addr (h830 (by rw [decide_eq_true h840] <;> rfl)).1 (h830 (by rw [decide_eq_true h840] <;> rfl)).2) (c1.ownZ 0 rfl).2.2 (h830 (by rw [decide_eq_true h840] <;> rfl))) ?_
      refine q_ 29 (fun _ c1 => oL (v := .int .i64 (ix s726.1 (s826 - (1 : Int)))) ((c1.own 0 rfl encI_len).cell0 (h830 (by rw [decide_eq_true h840] <;> rfl)).1 (h830 (by rw [decide_eq_true h840] <;> rfl)).2 rfl)) ?_
      refine q_ 30 (fun _ c1 => oI 7 rfl rfl ((hr_p0.old c1).addr (h831 (by rw [decide_eq_true h840] <;> rfl)).1 (h831 (by rw [decide_eq_true h840] <;> rfl)).2) hz_p0.2.2 (h831 (by rw [decide_eq_true h840] <;> rfl))) ?_
      refine q_ 31 (fun _ _ => op_field (m := 3) rfl (by kernel_rfl)) ?_
      refine q_ 32 (fun _ c1 => oL (v := .int .i64 ((ix p0 (ix s726.1 (s826 - (1 : Int)))).At)) ((hr_p0.old c1).cell (j := 3) (h831 (by rw [decide_eq_true h840] <;> rfl)).1 (h831 (by rw [decide_eq_true h840] <;> rfl)).2 rfl)) ?_
      refine qd 33 (fun _ _ => op_lss rfl rfl) (fun h841 => ?_) (fun h841 => ?_)
      ·refine qa 35 ((68, .bool true) :: (67, .bool true) :: (66, undef) :: (65, undef) :: (64, undef) :: (63, undef) :: (62, undef) :: (61, undef) :: (60, undef) :: (59, undef) :: (58, undef) :: (57, undef) :: (56, undef) :: (55, undef) :: (54, undef) :: (53, undef) :: (52, undef) :: (51, undef) :: (50, undef) :: (49, undef) :: (48, undef) :: (47, undef) :: (46, undef) :: (45, undef) :: (44, undef) :: (43, undef) :: (42, undef) :: (41, undef) :: (40, undef) :: (39, undef) :: (38, undef) :: (37, undef) :: (36, undef) :: (35, undef) :: (34, .bool true) :: _) rfl ?_
       exact leaf_q (sub_out 53 _ rfl (by kernel_rfl) ⟨(congrArg Value.bool (by rw [decide_eq_true h840, decide_eq_true h841] <;> rfl)), trivial⟩)
      ·refine qa 3 ((36, .int .i64 _) :: (35, .slice _ _ _) :: (34, .bool false) :: _) rfl ?_
       refine q_ 37 (fun _ c1 => oI 7 rfl rfl ((hr_p0.old c1).addr (h832 (by rw [decide_eq_true h840, decide_eq_false h841] <;> rfl)).1 (h832 (by rw [decide_eq_true h840, decide_eq_false h841] <;> rfl)).2) hz_p0.2.2 (h832 (by rw [decide_eq_true h840, decide_eq_false h841] <;> rfl))) ?_
       refine q_ 38 (fun _ _ => op_field (m := 3) rfl (by kernel_rfl)) ?_
       refine q_ 39 (fun _ c1 => oL (v := .int .i64 ((ix p0 s726.2).At)) ((hr_p0.old c1).cell (j := 3) (h832 (by rw [decide_eq_true h840, decide_eq_false h841] <;> rfl)).1 (h832 (by rw [decide_eq_true h840, decide_eq_false h841] <;> rfl)).2 rfl)) ?_
       refine qa 3 ((42, .int .i64 _) :: (41, .slice _ _ _) :: (40, .slice _ _ _) :: _) rfl ?_
       refine q_ 43 (fun _ _ => op_sub rfl rfl (h833 (by rw [decide_eq_true h840, decide_eq_false h841] <;> rfl))) ?_
       refine q_ 44 (fun _ c1 => oI 1 rfl rfl ((c1.own 0 rfl encI_len).addr (h834 (by rw [decide_eq_true h840, decide_eq_false h841] <;> rfl)).1 (h834 (by rw [decide_eq_true h840, decide_eq_false h841] <;> rfl)).2) (c1.ownZ 0 rfl).2.2 (h834 (by rw [decide_eq_true h840, decide_eq_false h841] <;> rfl))) ?_
       refine q_ 45 (fun _ c1 => oL (v := .int .i64 (ix s726.1 (s826 - (1 : Int)))) ((c1.own 0 rfl encI_len).cell0 (h834 (by rw [decide_eq_true h840, decide_eq_false h841] <;> rfl)).1 (h834 (by rw [decide_eq_true h840, decide_eq_false h841] <;> rfl)).2 rfl)) ?_
       refine q_ 46 (fun _ c1 => oI 7 rfl rfl ((hr_p0.old c1).addr (h835 (by rw [decide_eq_true h840, decide_eq_false h841] <;> rfl)).1 (h835 (by rw [decide_eq_true h840, decide_eq_false h841] <;> rfl)).2) hz_p0.2.2 (h835 (by rw [decide_eq_true h840, decide_eq_false h841] <;> rfl))) ?_
       refine q_ 47 (fun _ _ => op_field (m := 3) rfl (by kernel_rfl)) ?_
       refine q_ 48 (fun _ c1 => oL (v := .int .i64 ((ix p0 (ix s726.1 (s826 - (1 : Int)))).At)) ((hr_p0.old c1).cell (j := 3) (h835 (by rw [decide_eq_true h840, decide_eq_false h841] <;> rfl)).1 (h835 (by rw [decide_eq_true h840, decide_eq_false h841] <;> rfl)).2 rfl)) ?_
       refine qd 49 (fun _ _ => op_eql rfl rfl) (fun h842 => ?_) (fun h842 => ?_)
       ·refine qa 3 ((52, .int .i64 _) :: (51, .slice _ _ _) :: (50, .bool true) :: _) rfl ?_
        refine q_ 53 (fun _ c1 => oI 7 rfl rfl ((hr_p0.old c1).addr (h836 (by rw [decide_eq_true h840, decide_eq_false h841, decide_eq_true h842] <;> rfl)).1 (h836 (by rw [decide_eq_true h840, decide_eq_false h841, decide_eq_true h842] <;> rfl)).2) hz_p0.2.2 (h836 (by rw [decide_eq_true h840, decide_eq_false h841, decide_eq_true h842] <;> rfl))) ?_
        refine q_ 54 (fun _ _ => op_field0 rfl (by kernel_rfl)) ?_
        refine q_ 55 (fun _ c1 => oL (v := .int .i64 ((ix p0 s726.2).ID)) ((hr_p0.old c1).cell0 (h836 (by rw [decide_eq_true h840, decide_eq_false h841, decide_eq_true h842] <;> rfl)).1 (h836 (by rw [decide_eq_true h840, decide_eq_false h841, decide_eq_true h842] <;> rfl)).2 rfl)) ?_
        refine qa 3 ((58, .int .i64 _) :: (57, .slice _ _ _) :: (56, .slice _ _ _) :: _) rfl ?_
        refine q_ 59 (fun _ _ => op_sub rfl rfl (h837 (by rw [decide_eq_true h840, decide_eq_false h841, decide_eq_true h842] <;> rfl))) ?_
        refine q_ 60 (fun _ c1 => oI 1 rfl rfl ((c1.own 0 rfl encI_len).addr (h838 (by rw [decide_eq_true h840, decide_eq_false h841, decide_eq_true h842] <;> rfl)).1 (h838 (by rw [decide_eq_true h840, decide_eq_false h841, decide_eq_true h842] <;> rfl)).2) (c1.ownZ 0 rfl).2.2 (h838 (by rw [decide_eq_true h840, decide_eq_false h841, decide_eq_true h842] <;> rfl))) ?_
        refine q_ 61 (fun _ c1 => oL (v := .int .i64 (ix s726.1 (s826 - (1 : Int)))) ((c1.own 0 rfl encI_len).cell0 (h838 (by rw [decide_eq_true h840, decide_eq_false h841, decide_eq_true h842] <;> rfl)).1 (h838 (by rw [decide_eq_true h840, decide_eq_false h841, decide_eq_true h842] <;> rfl)).2 rfl)) ?_
        refine q_ 62 (fun _ c1 => oI 7 rfl rfl ((hr_p0.old c1).addr (h839 (by rw [decide_eq_true h840, decide_eq_false h841, decide_eq_true h842] <;> rfl)).1 (h839 (by rw [decide_eq_true h840, decide_eq_false h841, decide_eq_true h842] <;> rfl)).2) hz_p0.2.2 (h839 (by rw [decide_eq_true h840, decide_eq_false h841, decide_eq_true h842] <;> rfl))) ?_
        refine q_ 63 (fun _ _ => op_field0 rfl (by kernel_rfl)) ?_
        refine q_ 64 (fun _ c1 => oL (v := .int .i64 ((ix p0 (ix s726.1 (s826 - (1 : Int)))).ID)) ((hr_p0.old c1).cell0 (h839 (by rw [decide_eq_true h840, decide_eq_false h841, decide_eq_true h842] <;> rfl)).1 (h839 (by rw [decide_eq_true h840, decide_eq_false h841, decide_eq_true h842] <;> rfl)).2 rfl)) ?_
        refine qa 4 ((68, .bool _) :: (67, .bool _) :: (66, .bool _) :: (65, .bool _) :: _) rfl ?_
        exact leaf_q (sub_out 53 _ rfl (by kernel_rfl) ⟨(congrArg Value.bool (by rw [decide_eq_true h840, decide_eq_false h841, decide_eq_true h842] <;> rfl)), trivial⟩)
       ·refine qa 19 ((68, .bool false) :: (67, .bool false) :: (66, .bool false) :: (65, undef) :: (64, undef) :: (63, undef) :: (62, undef) :: (61, undef) :: (60, undef) :: (59, undef) :: (58, undef) :: (57, undef) :: (56, undef) :: (55, undef) :: (54, undef) :: (53, undef) :: (52, undef) :: (51, undef) :: (50, .bool false) :: _) rfl ?_
        exact leaf_q (sub_out 53 _ rfl (by kernel_rfl) ⟨(congrArg Value.bool (by rw [decide_eq_true h840, decide_eq_false h841, decide_eq_false h842] <;> rfl)), trivial⟩)
     ·refine qa 51 ((68, .bool false) :: (67, undef) :: (66, undef) :: (65, undef) :: (64, undef) :: (63, undef) :: (62, undef) :: (61, undef) :: (60, undef) :: (59, undef) :: (58, undef) :: (57, undef) :: (56, undef) :: (55, undef) :: (54, undef) :: (53, undef) :: (52, undef) :: (51, undef) :: (50, undef) :: (49, undef) :: (48, undef) :: (47, undef) :: (46, undef) :: (45, undef) :: (44, undef) :: (43, undef) :: (42, undef) :: (41, undef) :: (40, undef) :: (39, undef) :: (38, undef) :: (37, undef) :: (36, undef) :: (35, undef) :: (34, undef) :: (33, undef) :: (32, undef) :: (31, undef) :: (30, undef) :: (29, undef) :: (28, undef) :: (27, undef) :: (26, undef) :: (25, undef) :: (24, undef) :: (23, undef) :: (22, undef) :: (21, undef) :: (20, undef) :: (19, undef) :: (18, .bool false) :: _) rfl ?_
      exact leaf_q (sub_out 53 _ rfl (by kernel_rfl) ⟨(congrArg Value.bool (by rw [decide_eq_false h840] <;> rfl)), trivial⟩)
    refine xm_next ?_
    refine cm_condB (by kernel_rfl) rfl (fun h843 => ?_) (fun h843 => ?_)
    ·refine sk ?_
     refine cm_block ?_
     refine cm_region ?_
     refine la 1 ((69, .int .i64 _) :: _) rfl ?_
     refine lm_ck (fun h844 => ?_)
     refine v_ 70 (fun _ _ => op_sub rfl rfl h844) ?_
     refine la 1 ((5, .int .i64 _) :: _) rfl ?_
     refine lm_nil ?_
     refine xm_inN ?_
     exact xm_lnext () sq (sh [0])
    ·refine cm_exit ?_
     refine xm_thenE ?_
     refine xm_lexit ?_
     refine xm_here ?_
     exact xm_lnext () sq (sh [0])
   intro s786 u787
   refine sr ?_
   refine lm_slice0 71 (el := 3) (sz := 1) (bytes := 8) (enc := encI) (by kernel_rfl) (by kernel_rfl) ?_
   intro A845 n846 k847 h848
   refine la 2 ((73, .int .i64 _) :: (72, .slice _ _ _) :: _) rfl ?_
   refine lm_ck (fun h849 => ?_)
   refine v_ 74 (fun _ c1 => op_sliceFrom (l := s726.1) 1 rfl rfl (by kernel_rfl) (by kernel_rfl) (c1.ownZ 1 rfl) h849.1 h849.2) ?_
   refine lm_ck (fun h850 => ?_)
   refine lm_append 75 0 (el := 3) (sz := 1) (bytes := 8) (enc := encI) (l2 := (List.drop (Int.toNat s786) s726.1)) (by kernel_rfl) (by kernel_rfl) encI_len encI_one rfl rfl rfl (fun w1 c1 => ((c1.ownZ 1 rfl).drop (sz := 1) h849.1 h849.2)) (fun w1 c1 => ((c1.own 1 rfl encI_len).drop (c1.ownZ 1 rfl) h849.1 h849.2)) h850 ?_ (by kernel_rfl)
   intro A851 n852 k853
   refine la 1 ((6, .slice _ _ _) :: _) rfl ?_
   refine nn ?_
   refine cm_region ?_
   refine la 3 ((78, .int .i64 _) :: (77, .int .i64 _) :: (76, .slice _ _ _) :: _) rfl ?_
   refine lm_ck (fun h854 => ?_)
   refine v_ 79 (fun _ c1 => op_slice3 (l := s726.1) rfl rfl rfl (by kernel_rfl) (by kernel_rfl) ((c1.own 1 rfl encI_len).some_ (c1.ownZ 1 rfl)) (c1.ownZ 1 rfl) h854.1 h854.2) ?_
   refine la 1 ((80, .int .i64 _) :: _) rfl ?_
   refine lm_slice1 81 (el := 3) (sz := 1) (bytes := 8) (enc := encI) s726.2 (by kernel_rfl) (by kernel_rfl) encI_len rfl (by kernel_rfl) ?_
   intro A855 n856 k857 h858
   refine lm_ck (fun h859 => ?_)
   refine lm_ck (fun h860 => ?_)
   refine lm_appendF 82 (el := 3) (sz := 1) (bytes := 8) (enc := encI) (l := (List.take (Int.toNat s786) s726.1)) (l2 := ([s726.2])) (by kernel_rfl) (by kernel_rfl) encI_len rfl (fun w1 c1 => ((c1.ownZ 2 rfl).take3 h854.1 h854.2)) (fun w1 c1 => ((c1.own 2 rfl encI_len).take3 h854.1 h854.2)) rfl (fun w1 c1 => (c1.ownZ 0 rfl)) (fun w1 c1 => (c1.own 0 rfl encI_len)) h859 h860 (by kernel_rfl) ?_
   intro A861 n862 k863
   refine la 1 ((83, .slice _ _ _) :: _) rfl ?_
   refine lm_ck (fun h864 => ?_)
   refine lm_append 84 0 (el := 3) (sz := 1) (bytes := 8) (enc := encI) (l2 := (([] : List Int) ++ (List.drop (Int.toNat s786) s726.1))) (by kernel_rfl) (by kernel_rfl) encI_len encI_one rfl rfl rfl (fun w1 c1 => (c1.ownZ 2 rfl)) (fun w1 c1 => (c1.own 2 rfl encI_len)) h864 ?_ (by kernel_rfl)
   intro A865 n866 k867
   refine la 1 ((3, .slice _ _ _) :: _) rfl ?_
   refine lm_nil ?_
   refine xm_inN ?_
   refine xm_next ?_
   refine cm_region ?_
   refine la 1 ((12, .int .i64 _) :: _) rfl ?_
   refine lm_ck (fun h868 => ?_)
   refine v_ 13 (fun _ _ => op_add rfl rfl h868) ?_
   refine la 1 ((4, .int .i64 _) :: _) rfl ?_
   refine lm_nil ?_
   exact xm_lnext (A865, n866, k867) sq (sh [0])
  ·refine cm_exit ?_
   refine xm_thenE ?_
   refine xm_lexit ?_
   refine xm_here ?_
   exact xm_lnext (u727.1, u727.2.1, u727.2.2) sq (sh [0])
 intro s438 u439
 refine sr ?_
 refine la 2 ((2, .slice _ _ _) :: (85, .slice _ _ _) :: _) rfl ?_
 refine nn ?_
 refine cm_ret ?_
 exact xm_retT rfl (by kernel_rfl) (show _ = Value.slice _ _ _ from rfl) fun w1 c1 => ⟨(u439.1, u439.2.1, u439.2.2), rfl, hsub [0] (by kernel_rfl) rfl w1 c1⟩
/-- recyclingref18.counting -/
def m_recyclingref18_counting (N : Nat) (p0 : (List ApiEmptying)) (p1 : Int) : Option ((List Int)) :=
 Option.bind (m_recyclingref18_ordered N p0) fun r5 => (andThen
  (loopM (fun (s789 : (List Int) × Int) =>
   (if s789.2 < (List.length r5 : Int) then
    (andThen
     (ck ((0 : Int) ≤ s789.2 ∧ s789.2 < (List.length r5 : Int)) (
      ck ((0 : Int) ≤ (ix r5 s789.2) ∧ (ix r5 s789.2) < (List.length p0 : Int)) (
       (andThen
        (loopM (fun (s924 : Bool × Int) =>
         (if s924.2 < (List.length s789.1 : Int) then
          ck ((0 : Int) ≤ s924.2 ∧ s924.2 < (List.length s789.1 : Int)) (
           ck ((0 : Int) ≤ (ix s789.1 s924.2) ∧ (ix s789.1 s924.2) < (List.length p0 : Int)) (
            ck ((s924.1 && (!(decide ((ix p0 (ix s789.1 s924.2)).Container ≠ (ix p0 (ix r5 s789.2)).Container)))) = true → I64 (((ix p0 (ix r5 s789.2)).At) - ((ix p0 (ix s789.1 s924.2)).At))) (
             ck (I64 (s924.2 + (1 : Int))) (
              some (.next ((s924.1 && ((decide ((ix p0 (ix s789.1 s924.2)).Container ≠ (ix p0 (ix r5 s789.2)).Container)) || (decide (p1 < (((ix p0 (ix r5 s789.2)).At) - ((ix p0 (ix s789.1 s924.2)).At)))))), (s924.2 + (1 : Int))))))))
         else
          some (.done (.next s924.1)))) N ((!((ix p0 (ix r5 s789.2)).Void)), (0 : Int)))
       fun (s902 : Bool) =>
        (if s902 = true then
         ck ((0 : Int) ≤ s789.2 ∧ s789.2 < (List.length r5 : Int)) (
          ck ((List.length s789.1 + List.length ([(ix r5 s789.2)])) * 8 ≤ 140737488355328) (
           some (.next (s789.1 ++ ([(ix r5 s789.2)])))))
        else
         some (.next s789.1))))))
    fun (s867 : (List Int)) =>
     ck (I64 (s789.2 + (1 : Int))) (
      some (.next (s867, (s789.2 + (1 : Int))))))
   else
    some (.done (.next s789.1)))) N (([] : List Int), (0 : Int)))
 fun (s475 : (List Int)) =>
  some (s475))
set_option maxHeartbeats 2000000 in
set_option maxRecDepth 20000 in
theorem m_recyclingref18_counting_ok (N : Nat) (w0 : World) (p0 : (List ApiEmptying)) (p1 : Int) (A_p0 : Option Addr) (n_p0 c_p0 : Nat) (hr_p0 : RdE w0 7 encApiEmptying A_p0 p0) (hz_p0 : SW A_p0 n_p0 c_p0 (List.length p0)) (r : (List Int)) (hr : m_recyclingref18_counting N p0 p1 = some r) :
  Ret Tryz.prog 106 [.slice A_p0 n_p0 c_p0, .int .i64 p1] w0 (fun (_r : (List Int)) (u : (Option Addr) × Nat × Nat) => .slice u.1 u.2.1 u.2.2) (fun (r : (List Int)) (u : (Option Addr) × Nat × Nat) => [ownE 3 1 encI u.1 u.2.1 u.2.2 r]) r := by
 refine calls_v (n := 69) r hr Tryz.func106 ?_
 unfold m_recyclingref18_counting
 refine sr ?_
 refine la 1 ((4, .slice _ _ _) :: _) rfl ?_
 refine nn ?_
 refine sr ?_
 refine la 1 ((5, .slice _ _ _) :: _) rfl ?_
 refine nn ?_
 refine sr ?_
 refine la 1 ((12, .slice _ _ _) :: _) rfl ?_
 refine lm_call 13 (V := (fun (_r : (List Int)) (u : (Option Addr) × Nat × Nat) => .slice u.1 u.2.1 u.2.2)) (HR := (fun (r : (List Int)) (u : (Option Addr) × Nat × Nat) => [ownE 3 1 encI u.1 u.2.1 u.2.2 r])) (by kernel_rfl) (fun w1 => op_call (by kernel_rfl)) (fun r1 hr1 w1 c1 => m_recyclingref18_ordered_ok N w1 p0 A_p0 n_p0 c_p0 (hr_p0.old c1) hz_p0 r1 hr1) ?_
 intro r5 u6
 refine la 1 ((6, .slice _ _ _) :: _) rfl ?_
 refine nn ?_
 refine cm_join (σ := (List Int)) (ξ := (Option Addr) × Nat × Nat) (fun s475 u476 => [(5, .slice u476.1 u476.2.1 u476.2.2)]) (fun s475 u476 => [ownE 3 1 encI u476.1 u476.2.1 u476.2.2 s475]) ?_ ?_
 ·refine sr ?_
  refine la 1 ((7, .int .i64 _) :: _) rfl ?_
  refine nn ?_
  refine cm_block ?_
  refine cm_nilrow 3 1 encI ?_
  refine cm_loop (σ := (List Int) × Int) (ξ := (Option Addr) × Nat × Nat) (fun s789 u790 => [(0, .slice A_p0 n_p0 c_p0), (1, .int .i64 p1), (5, .slice u790.1 u790.2.1 u790.2.2), (6, .slice u6.1 u6.2.1 u6.2.2), (7, .int .i64 s789.2)]) (fun s789 u790 => [ownE 3 1 encI u790.1 u790.2.1 u790.2.2 s789.1, ownE 3 1 encI u6.1 u6.2.1 u6.2.2 r5]) (none, 0, 0) ?_ ?_ ?_
  ·exact sq
  ·exact sh [0, 1]
  intro s789 u790
  refine cm_seq ?_
  refine sr ?_
  refine la 2 ((15, .slice _ _ _) :: (14, .int .i64 _) :: _) rfl ?_
  refine v_ 16 (fun _ c1 => op_lenN rfl (by kernel_rfl) (c1.ownZ 1 rfl).2.2) ?_
  refine la 1 ((17, .bool _) :: _) rfl ?_
  refine nn ?_
  refine cm_cond (by kernel_rfl) rfl (fun h791 => ?_) (fun h791 => ?_)
  ·refine sk ?_
   refine cm_join (σ := (List Int)) (ξ := (Option Addr) × Nat × Nat) (fun s867 u868 => [(0, .slice A_p0 n_p0 c_p0), (1, .int .i64 p1), (5, .slice u868.1 u868.2.1 u868.2.2), (6, .slice u6.1 u6.2.1 u6.2.2), (7, .int .i64 s789.2)]) (fun s867 u868 => [ownE 3 1 encI u868.1 u868.2.1 u868.2.2 s867, ownE 3 1 encI u6.1 u6.2.1 u6.2.2 r5]) ?_ ?_
   ·refine cm_block ?_
    refine sr ?_
    refine la 3 ((22, .int .i64 _) :: (21, .slice _ _ _) :: (20, .slice _ _ _) :: _) rfl ?_
    refine lm_ck (fun h869 => ?_)
    refine v_ 23 (fun _ c1 => oI 1 rfl rfl ((c1.own 1 rfl encI_len).addr h869.1 h869.2) (c1.ownZ 1 rfl).2.2 h869) ?_
    refine v_ 24 (fun _ c1 => oL (v := .int .i64 (ix r5 s789.2)) ((c1.own 1 rfl encI_len).cell0 h869.1 h869.2 rfl)) ?_
    refine lm_ck (fun h870 => ?_)
    refine v_ 25 (fun _ c1 => oI 7 rfl rfl ((hr_p0.old c1).addr h870.1 h870.2) hz_p0.2.2 h870) ?_
    refine v_ 26 (fun _ c1 => oR [.int .i64 ((ix p0 (ix r5 s789.2)).ID), .int .i64 ((ix p0 (ix r5 s789.2)).Container), .int .i64 ((ix p0 (ix r5 s789.2)).Vehicle), .int .i64 ((ix p0 (ix r5 s789.2)).At), .int .i64 ((ix p0 (ix r5 s789.2)).Mass.Lo), .int .i64 ((ix p0 (ix r5 s789.2)).Mass.Hi), .bool ((ix p0 (ix r5 s789.2)).Void)] ((hr_p0.old c1).row h870.1 h870.2)) ?_
    refine lm_alloc 8 [.int .i64 0, .int .i64 0, .int .i64 0, .int .i64 0, .int .i64 0, .int .i64 0, .bool false] (v := .agg #[.int .i64 0, .int .i64 0, .int .i64 0, .int .i64 0, .int .i64 0, .int .i64 0, .bool false]) (by kernel_rfl) (by kernel_rfl) rfl ?_
    intro b871
    refine lm_storeA 0 [.int .i64 _, .int .i64 _, .int .i64 _, .int .i64 _, .int .i64 _, .int .i64 _, .bool _] [_, _, _, _, _, _, _] (H' := [blkE _ _ [_, _, _, _, _, _, _], _, _]) (by kernel_rfl) rfl rfl (by kernel_rfl) rfl rfl (by kernel_rfl) rfl rfl ?_
    refine nn ?_
    refine sr ?_
    refine v_ 27 (fun _ _ => oF 6 6 rfl) ?_
    refine v_ 28 (fun _ c1 => oL (c1.cell 0 (u := .bool _) rfl rfl)) ?_
    refine la 2 ((9, .bool _) :: (29, .bool _) :: _) rfl ?_
    refine nn ?_
    refine cm_join (σ := Bool) (ξ := Unit) (fun s902 u903 => [(0, .slice A_p0 n_p0 c_p0), (1, .int .i64 p1), (5, .slice u790.1 u790.2.1 u790.2.2), (6, .slice u6.1 u6.2.1 u6.2.2), (7, .int .i64 s789.2), (9, .bool s902)]) (fun s902 u903 => [ownE 3 1 encI u790.1 u790.2.1 u790.2.2 s789.1, ownE 3 1 encI u6.1 u6.2.1 u6.2.2 r5]) ?_ ?_
    ·refine sr ?_
     refine la 1 ((10, .int .i64 _) :: _) rfl ?_
     refine nn ?_
     refine cm_block ?_
     refine cm_loop (σ := Bool × Int) (ξ := Unit) (fun s924 u925 => [(0, .slice A_p0 n_p0 c_p0), (1, .int .i64 p1), (5, .slice u790.1 u790.2.1 u790.2.2), (6, .slice u6.1 u6.2.1 u6.2.2), (7, .int .i64 s789.2), (8, .pointer (some ⟨b871, 0, none⟩)), (9, .bool s924.1), (10, .int .i64 s924.2)]) (fun s924 u925 => [ownE 3 1 encI u790.1 u790.2.1 u790.2.2 s789.1, ownE 3 1 encI u6.1 u6.2.1 u6.2.2 r5, blkE b871 59 [.int .i64 ((ix p0 (ix r5 s789.2)).ID), .int .i64 ((ix p0 (ix r5 s789.2)).Container), .int .i64 ((ix p0 (ix r5 s789.2)).Vehicle), .int .i64 ((ix p0 (ix r5 s789.2)).At), .int .i64 ((ix p0 (ix r5 s789.2)).Mass.Lo), .int .i64 ((ix p0 (ix r5 s789.2)).Mass.Hi), .bool ((ix p0 (ix r5 s789.2)).Void)]]) () ?_ ?_ ?_
     ·exact sq
     ·exact sh [1, 2, 0]
     intro s924 u925
     refine cm_seq ?_
     refine sr ?_
     refine la 2 ((31, .slice _ _ _) :: (30, .int .i64 _) :: _) rfl ?_
     refine v_ 32 (fun _ c1 => op_lenN rfl (by kernel_rfl) (c1.ownZ 0 rfl).2.2) ?_
     refine la 1 ((33, .bool _) :: _) rfl ?_
     refine nn ?_
     refine cm_cond (by kernel_rfl) rfl (fun h926 => ?_) (fun h926 => ?_)
     ·refine sk ?_
      refine cm_seq ?_
      refine cm_block ?_
      refine sr ?_
      refine la 3 ((38, .int .i64 _) :: (37, .slice _ _ _) :: (36, .slice _ _ _) :: _) rfl ?_
      refine lm_ck (fun h927 => ?_)
      refine v_ 39 (fun _ c1 => oI 1 rfl rfl ((c1.own 0 rfl encI_len).addr h927.1 h927.2) (c1.ownZ 0 rfl).2.2 h927) ?_
      refine v_ 40 (fun _ c1 => oL (v := .int .i64 (ix s789.1 s924.2)) ((c1.own 0 rfl encI_len).cell0 h927.1 h927.2 rfl)) ?_
      refine lm_ck (fun h928 => ?_)
      refine v_ 41 (fun _ c1 => oI 7 rfl rfl ((hr_p0.old c1).addr h928.1 h928.2) hz_p0.2.2 h928) ?_
      refine v_ 42 (fun _ c1 => oR [.int .i64 ((ix p0 (ix s789.1 s924.2)).ID), .int .i64 ((ix p0 (ix s789.1 s924.2)).Container), .int .i64 ((ix p0 (ix s789.1 s924.2)).Vehicle), .int .i64 ((ix p0 (ix s789.1 s924.2)).At), .int .i64 ((ix p0 (ix s789.1 s924.2)).Mass.Lo), .int .i64 ((ix p0 (ix s789.1 s924.2)).Mass.Hi), .bool ((ix p0 (ix s789.1 s924.2)).Void)] ((hr_p0.old c1).row h928.1 h928.2)) ?_
      refine lm_alloc 11 [.int .i64 0, .int .i64 0, .int .i64 0, .int .i64 0, .int .i64 0, .int .i64 0, .bool false] (v := .agg #[.int .i64 0, .int .i64 0, .int .i64 0, .int .i64 0, .int .i64 0, .int .i64 0, .bool false]) (by kernel_rfl) (by kernel_rfl) rfl ?_
      intro b929
      refine lm_storeA 0 [.int .i64 _, .int .i64 _, .int .i64 _, .int .i64 _, .int .i64 _, .int .i64 _, .bool _] [_, _, _, _, _, _, _] (H' := [blkE _ _ [_, _, _, _, _, _, _], _, _, _]) (by kernel_rfl) rfl rfl (by kernel_rfl) rfl rfl (by kernel_rfl) rfl rfl ?_
      refine nn ?_
      refine cm_ck (fun h930 => ?_)
      refine cm_of_then ?_
      refine cm_cutE [(9, .bool (s924.1 && ((decide ((ix p0 (ix s789.1 s924.2)).Container ≠ (ix p0 (ix r5 s789.2)).Container)) || (decide (p1 < (((ix p0 (ix r5 s789.2)).At) - ((ix p0 (ix s789.1 s924.2)).At)))))))] ?_ ?_
      ·refine wq_bool 43 (by kernel_rfl) (fun w1 c1 => (op_move (v := .bool _) rfl)) (fun h931 => ?_) (fun h931 => ?_)
       ·refine qa 1 ((44, .bool true) :: _) rfl ?_
        refine q_ 45 (fun _ _ => oF 1 1 rfl) ?_
        refine q_ 46 (fun _ c1 => oL (c1.cell 0 (u := .int .i64 _) rfl rfl)) ?_
        refine q_ 47 (fun _ _ => oF 1 1 rfl) ?_
        refine q_ 48 (fun _ c1 => oL (c1.cell 3 (u := .int .i64 _) rfl rfl)) ?_
        refine qd 49 (fun _ _ => op_neq rfl rfl) (fun h932 => ?_) (fun h932 => ?_)
        ·refine qa 11 ((9, .bool true) :: (59, .bool true) :: (58, .bool true) :: (57, undef) :: (56, undef) :: (55, undef) :: (54, undef) :: (53, undef) :: (52, undef) :: (51, undef) :: (50, .bool true) :: _) rfl ?_
         exact leaf_q (sub_out 18 _ rfl (by kernel_rfl) ⟨(congrArg Value.bool (by rw [h931, decide_eq_true h932] <;> rfl)), trivial⟩)
        ·refine qa 1 ((50, .bool false) :: _) rfl ?_
         refine q_ 51 (fun _ _ => oF 3 3 rfl) ?_
         refine q_ 52 (fun _ c1 => oL (c1.cell 3 (u := .int .i64 _) rfl rfl)) ?_
         refine q_ 53 (fun _ _ => oF 3 3 rfl) ?_
         refine q_ 54 (fun _ c1 => oL (c1.cell 0 (u := .int .i64 _) rfl rfl)) ?_
         refine q_ 55 (fun _ _ => op_sub rfl rfl (h930 (by rw [h931, decide_eq_false h932] <;> rfl))) ?_
         refine qa 5 ((9, .bool _) :: (59, .bool _) :: (58, .bool _) :: (57, .bool _) :: (56, .int .i64 _) :: _) rfl ?_
         exact leaf_q (sub_out 18 _ rfl (by kernel_rfl) ⟨(congrArg Value.bool (by rw [h931, decide_eq_false h932] <;> rfl)), trivial⟩)
       ·refine qa 17 ((9, .bool false) :: (59, .bool false) :: (58, undef) :: (57, undef) :: (56, undef) :: (55, undef) :: (54, undef) :: (53, undef) :: (52, undef) :: (51, undef) :: (50, undef) :: (49, undef) :: (48, undef) :: (47, undef) :: (46, undef) :: (45, undef) :: (44, .bool false) :: _) rfl ?_
        exact leaf_q (sub_out 18 _ rfl (by kernel_rfl) ⟨(congrArg Value.bool (by rw [h931] <;> rfl)), trivial⟩)
      refine xm_of_then ?_
      refine xm_inN ?_
      refine xm_next ?_
      refine cm_region ?_
      refine la 1 ((34, .int .i64 _) :: _) rfl ?_
      refine lm_ck (fun h933 => ?_)
      refine v_ 35 (fun _ _ => op_add rfl rfl h933) ?_
      refine la 1 ((10, .int .i64 _) :: _) rfl ?_
      refine lm_nil ?_
      exact xm_lnext () sq (sh [1, 2, 3])
     ·refine cm_exit ?_
      refine xm_thenE ?_
      refine xm_lexit ?_
      refine xm_here ?_
      exact xm_lnext () sq (sh [0, 1])
    intro s902 u903
    refine sr ?_
    refine la 1 ((60, .bool _) :: _) rfl ?_
    refine nn ?_
    refine cm_condB (by kernel_rfl) rfl (fun h934 => ?_) (fun h934 => ?_)
    ·refine cm_region ?_
     refine la 3 ((63, .int .i64 _) :: (62, .slice _ _ _) :: (61, .slice _ _ _) :: _) rfl ?_
     refine lm_ck (fun h935 => ?_)
     refine v_ 64 (fun _ c1 => oI 1 rfl rfl ((c1.own 1 rfl encI_len).addr h935.1 h935.2) (c1.ownZ 1 rfl).2.2 h935) ?_
     refine v_ 65 (fun _ c1 => oL (v := .int .i64 (ix r5 s789.2)) ((c1.own 1 rfl encI_len).cell0 h935.1 h935.2 rfl)) ?_
     refine lm_slice1 66 (el := 3) (sz := 1) (bytes := 8) (enc := encI) (ix r5 s789.2) (by kernel_rfl) (by kernel_rfl) encI_len rfl (by kernel_rfl) ?_
     intro A936 n937 k938 h939
     refine lm_ck (fun h940 => ?_)
     refine lm_append 67 1 (el := 3) (sz := 1) (bytes := 8) (enc := encI) (l2 := ([(ix r5 s789.2)])) (by kernel_rfl) (by kernel_rfl) encI_len encI_one rfl rfl rfl (fun w1 c1 => (c1.ownZ 0 rfl)) (fun w1 c1 => (c1.own 0 rfl encI_len)) h940 ?_ (by kernel_rfl)
     intro A941 n942 k943
     refine la 1 ((5, .slice _ _ _) :: _) rfl ?_
     refine lm_nil ?_
     refine xm_inN ?_
     exact xm_lnext (A941, n942, k943) sq (sh [1, 2])
    ·refine cm_skip ?_
     refine xm_inN ?_
     exact xm_lnext (u790.1, u790.2.1, u790.2.2) sq (sh [0, 1])
   intro s867 u868
   refine cm_region ?_
   refine la 1 ((18, .int .i64 _) :: _) rfl ?_
   refine lm_ck (fun h944 => ?_)
   refine v_ 19 (fun _ _ => op_add rfl rfl h944) ?_
   refine la 1 ((7, .int .i64 _) :: _) rfl ?_
   refine lm_nil ?_
   exact xm_lnext (u868.1, u868.2.1, u868.2.2) sq (sh [0, 1])
  ·refine cm_exit ?_
   refine xm_thenE ?_
   refine xm_lexit ?_
   refine xm_here ?_
   exact xm_lnext (u790.1, u790.2.1, u790.2.2) sq (sh [0])
 intro s475 u476
 refine sr ?_
 refine la 2 ((4, .slice _ _ _) :: (68, .slice _ _ _) :: _) rfl ?_
 refine nn ?_
 refine cm_ret ?_
 exact xm_retT rfl (by kernel_rfl) (show _ = Value.slice _ _ _ from rfl) fun w1 c1 => ⟨(u476.1, u476.2.1, u476.2.2), rfl, hsub [0] (by kernel_rfl) rfl w1 c1⟩
/-- recyclingref18.Counts -/
def m_recyclingref18_Counts (N : Nat) (p0 : (List ApiEmptying)) (p1 : Int) : Option ((List Int) × Int) :=
 Option.bind (m_recyclingref18_Check N p0 (256 : Int) (16 : Int)) fun r5 => (if r5 ≠ 0 then
  some ((([] : List Int), r5))
 else
  (if ((decide (p1 < 0)) || (decide (86400 < p1))) = true then
   some ((([] : List Int), (1 : Int)))
  else
   Option.bind (m_recyclingref18_counting N p0 p1) fun r10 => some ((r10, (0 : Int)))))
set_option maxRecDepth 20000 in
theorem m_recyclingref18_Counts_ok (N : Nat) (w0 : World) (p0 : (List ApiEmptying)) (p1 : Int) (A_p0 : Option Addr) (n_p0 c_p0 : Nat) (hr_p0 : RdE w0 7 encApiEmptying A_p0 p0) (hz_p0 : SW A_p0 n_p0 c_p0 (List.length p0)) (r : (List Int) × Int) (hr : m_recyclingref18_Counts N p0 p1 = some r) :
  Ret Tryz.prog 85 [.slice A_p0 n_p0 c_p0, .int .i64 p1] w0 (fun (r : (List Int) × Int) (u : (Option Addr) × Nat × Nat) => .tuple #[.slice u.1 u.2.1 u.2.2, .int .i64 r.2]) (fun (r : (List Int) × Int) (u : (Option Addr) × Nat × Nat) => [ownE 3 1 encI u.1 u.2.1 u.2.2 r.1]) r := by
 refine calls_v (n := 21) r hr Tryz.func85 ?_
 unfold m_recyclingref18_Counts
 refine sr ?_
 refine la 2 ((5, .int .i64 _) :: (4, .slice _ _ _) :: _) rfl ?_
 refine nn ?_
 refine cm_seq ?_
 refine sr ?_
 refine la 1 ((7, .slice _ _ _) :: _) rfl ?_
 refine lm_call 8 (V := (fun (r : Int) (_u : Unit) => .int .i64 r)) (HR := (fun (_r : Int) (_u : Unit) => [])) (by kernel_rfl) (fun w1 => op_call (by kernel_rfl)) (fun r1 hr1 w1 c1 => m_recyclingref18_Check_ok N w1 p0 (256 : Int) (16 : Int) A_p0 n_p0 c_p0 (hr_p0.old c1) hz_p0 r1 hr1) ?_
 intro r5 u6
 refine la 1 ((6, .int .i64 _) :: _) rfl ?_
 refine nn ?_
 refine sr ?_
 refine la 2 ((10, .bool _) :: (9, .int .i64 _) :: _) rfl ?_
 refine nn ?_
 refine cm_cond (by kernel_rfl) rfl (fun h7 => ?_) (fun h7 => ?_)
 ·refine sr ?_
  refine la 3 ((5, .int .i64 _) :: (4, .slice _ _ _) :: (11, .int .i64 _) :: _) rfl ?_
  refine nn ?_
  refine cm_ret ?_
  refine xm_thenR ?_
  refine xm_nilrow 3 1 encI ?_
  exact xm_retTT rfl (by kernel_rfl) (show _ = Value.slice _ _ _ from rfl) (by kernel_rfl) (show _ = Value.int .i64 _ from rfl) fun w1 c1 => ⟨(none, 0, 0), rfl, hsub [0] (by kernel_rfl) rfl w1 c1⟩
 ·refine sk ?_
  refine cm_seq ?_
  refine cm_seq ?_
  refine cm_cutE [(17, .bool ((decide (p1 < 0)) || (decide (86400 < p1))))] ?_ ?_
  ·refine qa 1 ((12, .int .i64 _) :: _) rfl ?_
   refine qd 13 (fun _ _ => op_lss rfl rfl) (fun h8 => ?_) (fun h8 => ?_)
   ·refine qa 4 ((17, .bool true) :: (16, undef) :: (15, undef) :: (14, .bool true) :: _) rfl ?_
    exact leaf_q (sub_out 6 _ rfl (by kernel_rfl) ⟨(congrArg Value.bool (by rw [decide_eq_true h8] <;> rfl)), trivial⟩)
   ·refine qa 4 ((17, .bool _) :: (16, .bool _) :: (15, .int .i64 _) :: (14, .bool false) :: _) rfl ?_
    exact leaf_q (sub_out 6 _ rfl (by kernel_rfl) ⟨(congrArg Value.bool (by rw [decide_eq_false h8] <;> rfl)), trivial⟩)
  refine xm_next ?_
  refine cm_condB (by kernel_rfl) rfl (fun h9 => ?_) (fun h9 => ?_)
  ·refine sr ?_
   refine la 2 ((5, .int .i64 _) :: (4, .slice _ _ _) :: _) rfl ?_
   refine nn ?_
   refine cm_ret ?_
   refine xm_thenR ?_
   refine xm_nilrow 3 1 encI ?_
   exact xm_retTT rfl (by kernel_rfl) (show _ = Value.slice _ _ _ from rfl) (by kernel_rfl) (show _ = Value.int .i64 _ from rfl) fun w1 c1 => ⟨(none, 0, 0), rfl, hsub [0] (by kernel_rfl) rfl w1 c1⟩
  ·refine sk ?_
   refine sr ?_
   refine la 2 ((19, .int .i64 _) :: (18, .slice _ _ _) :: _) rfl ?_
   refine lm_call 20 (V := (fun (_r : (List Int)) (u : (Option Addr) × Nat × Nat) => .slice u.1 u.2.1 u.2.2)) (HR := (fun (r : (List Int)) (u : (Option Addr) × Nat × Nat) => [ownE 3 1 encI u.1 u.2.1 u.2.2 r])) (by kernel_rfl) (fun w1 => op_call (by kernel_rfl)) (fun r1 hr1 w1 c1 => m_recyclingref18_counting_ok N w1 p0 p1 A_p0 n_p0 c_p0 (hr_p0.old c1) hz_p0 r1 hr1) ?_
   intro r10 u11
   refine la 2 ((5, .int .i64 _) :: (4, .slice _ _ _) :: _) rfl ?_
   refine nn ?_
   refine cm_ret ?_
   exact xm_retTT rfl (by kernel_rfl) (show _ = Value.slice _ _ _ from rfl) (by kernel_rfl) (show _ = Value.int .i64 _ from rfl) fun w1 c1 => ⟨(u11.1, u11.2.1, u11.2.2), rfl, hsub [0] (by kernel_rfl) rfl w1 c1⟩
/-- recyclingref18.Window -/
def m_recyclingref18_Window (_N : Nat) (p0 : ApiWindow) : Option (Bool) :=
 some ((((decide (0 ≤ p0.From)) && (decide (p0.From ≤ p0.To))) && (decide (p0.To ≤ 3155760000))))
set_option maxRecDepth 20000 in
theorem m_recyclingref18_Window_ok (N : Nat) (w0 : World) (p0 : ApiWindow)   (r : Bool) (hr : m_recyclingref18_Window N p0 = some r) :
  Ret Tryz.prog 86 [.agg #[.int .i64 p0.From, .int .i64 p0.To]] w0 (fun (r : Bool) (_u : Unit) => .bool r) (fun (_r : Bool) (_u : Unit) => []) r := by
 refine calls_v (n := 18) r hr Tryz.func86 ?_
 unfold m_recyclingref18_Window
 refine sr ?_
 refine lm_box 1 [.int .i64 _, .int .i64 _] (by kernel_rfl) rfl ?_
 intro b5
 refine la 1 ((2, .bool false) :: _) rfl ?_
 refine nn ?_
 refine cm_seq ?_
 refine cm_cutE [(2, .bool (((decide (0 ≤ p0.From)) && (decide (p0.From ≤ p0.To))) && (decide (p0.To ≤ 3155760000))))] ?_ ?_
 ·refine q_ 3 (fun _ _ => oF 0 0 rfl) ?_
  refine q_ 4 (fun _ c1 => oL (c1.cell 0 (u := .int .i64 _) rfl rfl)) ?_
  refine qd 5 (fun _ _ => op_leq rfl rfl) (fun h6 => ?_) (fun h6 => ?_)
  ·refine qa 1 ((6, .bool true) :: _) rfl ?_
   refine q_ 7 (fun _ _ => oF 0 0 rfl) ?_
   refine q_ 8 (fun _ c1 => oL (c1.cell 0 (u := .int .i64 _) rfl rfl)) ?_
   refine q_ 9 (fun _ _ => oF 1 1 rfl) ?_
   refine q_ 10 (fun _ c1 => oL (c1.cell 0 (u := .int .i64 _) rfl rfl)) ?_
   refine qd 11 (fun _ _ => op_leq rfl rfl) (fun h7 => ?_) (fun h7 => ?_)
   ·refine qa 2 ((13, .bool true) :: (12, .bool true) :: _) rfl ?_
    refine q_ 14 (fun _ _ => oF 1 1 rfl) ?_
    refine q_ 15 (fun _ c1 => oL (c1.cell 0 (u := .int .i64 _) rfl rfl)) ?_
    refine qa 3 ((2, .bool _) :: (17, .bool _) :: (16, .bool _) :: _) rfl ?_
    exact leaf_q (sub_out 16 _ rfl (by kernel_rfl) ⟨(congrArg Value.bool (by rw [decide_eq_true h6, decide_eq_true h7] <;> rfl)), trivial⟩)
   ·refine qa 7 ((2, .bool false) :: (17, .bool false) :: (16, undef) :: (15, undef) :: (14, undef) :: (13, .bool false) :: (12, .bool false) :: _) rfl ?_
    exact leaf_q (sub_out 16 _ rfl (by kernel_rfl) ⟨(congrArg Value.bool (by rw [decide_eq_true h6, decide_eq_false h7] <;> rfl)), trivial⟩)
  ·refine qa 13 ((2, .bool false) :: (17, .bool false) :: (16, undef) :: (15, undef) :: (14, undef) :: (13, .bool false) :: (12, .bool false) :: (11, undef) :: (10, undef) :: (9, undef) :: (8, undef) :: (7, undef) :: (6, .bool false) :: _) rfl ?_
   exact leaf_q (sub_out 16 _ rfl (by kernel_rfl) ⟨(congrArg Value.bool (by rw [decide_eq_false h6] <;> rfl)), trivial⟩)
 refine xm_next ?_
 refine cm_ret ?_
 exact xm_retT rfl (by kernel_rfl) (show _ = Value.bool _ from rfl) fun w1 c1 => ⟨(), rfl, hsub [] (by kernel_rfl) rfl w1 c1⟩
/-- recyclingref18.Belongs -/
def m_recyclingref18_Belongs (N : Nat) (p0 : (List ApiAssign)) (p1 : Int) (p2 : Int) (p3 : Int) : Option (Bool) :=
 (andThen
  (loopM (fun (s62 : Int) =>
   (if s62 < (List.length p0 : Int) then
    ck ((0 : Int) ≤ s62 ∧ s62 < (List.length p0 : Int)) (
     ck (decide ((ix p0 s62).Container = p1) = true → (0 : Int) ≤ s62 ∧ s62 < (List.length p0 : Int)) (
      ck (((decide ((ix p0 s62).Container = p1)) && (decide ((ix p0 s62).When.From ≤ p3))) = true → (0 : Int) ≤ s62 ∧ s62 < (List.length p0 : Int)) (
       (if (((decide ((ix p0 s62).Container = p1)) && (decide ((ix p0 s62).When.From ≤ p3))) && (decide (p3 < (ix p0 s62).When.To))) = true then
        ck ((0 : Int) ≤ s62 ∧ s62 < (List.length p0 : Int)) (
         some (.done (.done ((decide ((ix p0 s62).Household = p2))))))
       else
        ck (I64 (s62 + (1 : Int))) (
         some (.next (s62 + (1 : Int))))))))
   else
    some (.done (.next ())))) N (0 : Int))
 fun (_s38 : Unit) =>
  some (false))
set_option maxHeartbeats 2000000 in
set_option maxRecDepth 20000 in
theorem m_recyclingref18_Belongs_ok (N : Nat) (w0 : World) (p0 : (List ApiAssign)) (p1 : Int) (p2 : Int) (p3 : Int) (A_p0 : Option Addr) (n_p0 c_p0 : Nat) (hr_p0 : RdE w0 4 encApiAssign A_p0 p0) (hz_p0 : SW A_p0 n_p0 c_p0 (List.length p0)) (r : Bool) (hr : m_recyclingref18_Belongs N p0 p1 p2 p3 = some r) :
  Ret Tryz.prog 87 [.slice A_p0 n_p0 c_p0, .int .i64 p1, .int .i64 p2, .int .i64 p3] w0 (fun (r : Bool) (_u : Unit) => .bool r) (fun (_r : Bool) (_u : Unit) => []) r := by
 refine calls_v (n := 50) r hr Tryz.func87 ?_
 unfold m_recyclingref18_Belongs
 refine sr ?_
 refine la 1 ((8, .bool false) :: _) rfl ?_
 refine nn ?_
 refine cm_join (σ := Unit) (ξ := Unit) (fun s38 u39 => []) (fun s38 u39 => []) ?_ ?_
 ·refine sr ?_
  refine la 1 ((9, .int .i64 _) :: _) rfl ?_
  refine nn ?_
  refine cm_block ?_
  refine cm_loop (σ := Int) (ξ := Unit) (fun s62 u63 => [(0, .slice A_p0 n_p0 c_p0), (1, .int .i64 p1), (2, .int .i64 p2), (3, .int .i64 p3), (9, .int .i64 s62)]) (fun s62 u63 => []) () ?_ ?_ ?_
  ·exact sq
  ·exact sh []
  intro s62 u63
  refine cm_seq ?_
  refine sr ?_
  refine la 2 ((11, .slice _ _ _) :: (10, .int .i64 _) :: _) rfl ?_
  refine v_ 12 (fun _ _ => op_lenN rfl (by kernel_rfl) hz_p0.2.2) ?_
  refine la 1 ((13, .bool _) :: _) rfl ?_
  refine nn ?_
  refine cm_cond (by kernel_rfl) rfl (fun h64 => ?_) (fun h64 => ?_)
  ·refine sk ?_
   refine cm_seq ?_
   refine cm_block ?_
   refine cm_seq ?_
   refine cm_ck (fun h65 => ?_)
   refine cm_ck (fun h66 => ?_)
   refine cm_ck (fun h67 => ?_)
   refine cm_cutE [(42, .bool (((decide ((ix p0 s62).Container = p1)) && (decide ((ix p0 s62).When.From ≤ p3))) && (decide (p3 < (ix p0 s62).When.To))))] ?_ ?_
   ·refine qa 2 ((17, .int .i64 _) :: (16, .slice _ _ _) :: _) rfl ?_
    refine q_ 18 (fun _ c1 => oI 4 rfl rfl ((hr_p0.old c1).addr h65.1 h65.2) hz_p0.2.2 h65) ?_
    refine q_ 19 (fun _ _ => op_field0 rfl (by kernel_rfl)) ?_
    refine q_ 20 (fun _ c1 => oL (v := .int .i64 ((ix p0 s62).Container)) ((hr_p0.old c1).cell0 h65.1 h65.2 rfl)) ?_
    refine qa 1 ((21, .int .i64 _) :: _) rfl ?_
    refine qd 22 (fun _ _ => op_eql rfl rfl) (fun h68 => ?_) (fun h68 => ?_)
    ·refine qa 3 ((25, .int .i64 _) :: (24, .slice _ _ _) :: (23, .bool true) :: _) rfl ?_
     refine q_ 26 (fun _ c1 => oI 4 rfl rfl ((hr_p0.old c1).addr (h66 (by rw [decide_eq_true h68] <;> rfl)).1 (h66 (by rw [decide_eq_true h68] <;> rfl)).2) hz_p0.2.2 (h66 (by rw [decide_eq_true h68] <;> rfl))) ?_
     refine q_ 27 (fun _ _ => op_field (m := 2) rfl (by kernel_rfl)) ?_
     refine q_ 28 (fun _ _ => op_field0 rfl (by kernel_rfl)) ?_
     refine q_ 29 (fun _ c1 => oL (v := .int .i64 ((ix p0 s62).When.From)) ((hr_p0.old c1).cell (j := 2) (h66 (by rw [decide_eq_true h68] <;> rfl)).1 (h66 (by rw [decide_eq_true h68] <;> rfl)).2 rfl)) ?_
     refine qa 1 ((30, .int .i64 _) :: _) rfl ?_
     refine qd 31 (fun _ _ => op_leq rfl rfl) (fun h69 => ?_) (fun h69 => ?_)
     ·refine qa 5 ((36, .int .i64 _) :: (35, .slice _ _ _) :: (34, .int .i64 _) :: (33, .bool true) :: (32, .bool true) :: _) rfl ?_
      refine q_ 37 (fun _ c1 => oI 4 rfl rfl ((hr_p0.old c1).addr (h67 (by rw [decide_eq_true h68, decide_eq_true h69] <;> rfl)).1 (h67 (by rw [decide_eq_true h68, decide_eq_true h69] <;> rfl)).2) hz_p0.2.2 (h67 (by rw [decide_eq_true h68, decide_eq_true h69] <;> rfl))) ?_
      refine q_ 38 (fun _ _ => op_field (m := 2) rfl (by kernel_rfl)) ?_
      refine q_ 39 (fun _ _ => oF 1 (ao A_p0 + Int.toNat s62 * 4 + 3) rfl) ?_
      refine q_ 40 (fun _ c1 => oL (v := .int .i64 ((ix p0 s62).When.To)) ((hr_p0.old c1).cell (j := 3) (h67 (by rw [decide_eq_true h68, decide_eq_true h69] <;> rfl)).1 (h67 (by rw [decide_eq_true h68, decide_eq_true h69] <;> rfl)).2 rfl)) ?_
      refine qa 2 ((42, .bool _) :: (41, .bool _) :: _) rfl ?_
      exact leaf_q (sub_out 27 _ rfl (by kernel_rfl) ⟨(congrArg Value.bool (by rw [decide_eq_true h68, decide_eq_true h69] <;> rfl)), trivial⟩)
     ·refine qa 11 ((42, .bool false) :: (41, undef) :: (40, undef) :: (39, undef) :: (38, undef) :: (37, undef) :: (36, undef) :: (35, undef) :: (34, undef) :: (33, .bool false) :: (32, .bool false) :: _) rfl ?_
      exact leaf_q (sub_out 27 _ rfl (by kernel_rfl) ⟨(congrArg Value.bool (by rw [decide_eq_true h68, decide_eq_false h69] <;> rfl)), trivial⟩)
    ·refine qa 20 ((42, .bool false) :: (41, undef) :: (40, undef) :: (39, undef) :: (38, undef) :: (37, undef) :: (36, undef) :: (35, undef) :: (34, undef) :: (33, .bool false) :: (32, .bool false) :: (31, undef) :: (30, undef) :: (29, undef) :: (28, undef) :: (27, undef) :: (26, undef) :: (25, undef) :: (24, undef) :: (23, .bool false) :: _) rfl ?_
     exact leaf_q (sub_out 27 _ rfl (by kernel_rfl) ⟨(congrArg Value.bool (by rw [decide_eq_false h68] <;> rfl)), trivial⟩)
   refine xm_next ?_
   refine cm_condB (by kernel_rfl) rfl (fun h70 => ?_) (fun h70 => ?_)
   ·refine sr ?_
    refine la 2 ((44, .int .i64 _) :: (43, .slice _ _ _) :: _) rfl ?_
    refine lm_ck (fun h71 => ?_)
    refine v_ 45 (fun _ c1 => oI 4 rfl rfl ((hr_p0.old c1).addr h71.1 h71.2) hz_p0.2.2 h71) ?_
    refine v_ 46 (fun _ _ => op_field (m := 1) rfl (by kernel_rfl)) ?_
    refine v_ 47 (fun _ c1 => oL (v := .int .i64 ((ix p0 s62).Household)) ((hr_p0.old c1).cell (j := 1) h71.1 h71.2 rfl)) ?_
    refine la 3 ((8, .bool _) :: (49, .bool _) :: (48, .int .i64 _) :: _) rfl ?_
    refine nn ?_
    refine cm_ret ?_
    refine xm_inR ?_
    refine xm_thenR ?_
    refine xm_lret ?_
    refine xm_inR ?_
    refine xm_lret ?_
    exact xm_retT rfl (by kernel_rfl) (show _ = Value.bool _ from rfl) fun w1 c1 => ⟨(), rfl, hsub [] (by kernel_rfl) rfl w1 c1⟩
   ·refine cm_skip ?_
    refine xm_inN ?_
    refine xm_next ?_
    refine cm_region ?_
    refine la 1 ((14, .int .i64 _) :: _) rfl ?_
    refine lm_ck (fun h72 => ?_)
    refine v_ 15 (fun _ _ => op_add rfl rfl h72) ?_
    refine la 1 ((9, .int .i64 _) :: _) rfl ?_
    refine lm_nil ?_
    exact xm_lnext () sq (sh [])
  ·refine cm_exit ?_
   refine xm_thenE ?_
   refine xm_lexit ?_
   refine xm_here ?_
   exact xm_lnext () sub_nil (sh [])
 intro s38 u39
 refine sr ?_
 refine la 1 ((8, .bool false) :: _) rfl ?_
 refine nn ?_
 refine cm_ret ?_
 exact xm_retT rfl (by kernel_rfl) (show _ = Value.bool false from rfl) fun w1 c1 => ⟨(), rfl, hsub [] (by kernel_rfl) rfl w1 c1⟩
/-- recyclingref18.Of -/
def m_recyclingref18_Of (N : Nat) (p0 : (List ApiEmptying)) (p1 : (List ApiAssign)) (p2 : Int) (p3 : ApiWindow) (p4 : Int) : Option ((List Int) × Int) :=
 Option.bind (m_recyclingref18_Counts N p0 p4) fun r6 => (if r6.2 ≠ 0 then
  some ((([] : List Int), r6.2))
 else
  Option.bind (m_recyclingref18_Window N p3) fun r9 => (if (!r9) = true then
   some ((([] : List Int), (1 : Int)))
  else
   (andThen
    (loopM (fun (s214 : (List Int) × Int) =>
     (if s214.2 < (List.length r6.1 : Int) then
      (andThen
       (ck ((0 : Int) ≤ s214.2 ∧ s214.2 < (List.length r6.1 : Int)) (
        ck ((0 : Int) ≤ (ix r6.1 s214.2) ∧ (ix r6.1 s214.2) < (List.length p0 : Int)) (
         callIf (((decide (p3.From ≤ (ix p0 (ix r6.1 s214.2)).At)) && (decide ((ix p0 (ix r6.1 s214.2)).At < p3.To))) = true) (m_recyclingref18_Belongs N p1 ((ix p0 (ix r6.1 s214.2)).Container) p2 ((ix p0 (ix r6.1 s214.2)).At)) fun r239 => (if (((decide (p3.From ≤ (ix p0 (ix r6.1 s214.2)).At)) && (decide ((ix p0 (ix r6.1 s214.2)).At < p3.To))) && r239) = true then
          ck ((0 : Int) ≤ s214.2 ∧ s214.2 < (List.length r6.1 : Int)) (
           ck ((List.length s214.1 + List.length ([(ix r6.1 s214.2)])) * 8 ≤ 140737488355328) (
            some (.next (s214.1 ++ ([(ix r6.1 s214.2)])))))
         else
          some (.next s214.1)))))
      fun (s234 : (List Int)) =>
       ck (I64 (s214.2 + (1 : Int))) (
        some (.next (s234, (s214.2 + (1 : Int))))))
     else
      some (.done (.next s214.1)))) N (([] : List Int), (0 : Int)))
   fun (s132 : (List Int)) =>
    some ((s132, (0 : Int))))))
set_option maxHeartbeats 2000000 in
set_option maxRecDepth 20000 in
theorem m_recyclingref18_Of_ok (N : Nat) (w0 : World) (p0 : (List ApiEmptying)) (p1 : (List ApiAssign)) (p2 : Int) (p3 : ApiWindow) (p4 : Int) (A_p0 : Option Addr) (n_p0 c_p0 : Nat) (A_p1 : Option Addr) (n_p1 c_p1 : Nat) (hr_p0 : RdE w0 7 encApiEmptying A_p0 p0) (hz_p0 : SW A_p0 n_p0 c_p0 (List.length p0)) (hr_p1 : RdE w0 4 encApiAssign A_p1 p1) (hz_p1 : SW A_p1 n_p1 c_p1 (List.length p1)) (r : (List Int) × Int) (hr : m_recyclingref18_Of N p0 p1 p2 p3 p4 = some r) :
  Ret Tryz.prog 44 [.slice A_p0 n_p0 c_p0, .slice A_p1 n_p1 c_p1, .int .i64 p2, .agg #[.int .i64 p3.From, .int .i64 p3.To], .int .i64 p4] w0 (fun (r : (List Int) × Int) (u : (Option Addr) × Nat × Nat) => .tuple #[.slice u.1 u.2.1 u.2.2, .int .i64 r.2]) (fun (r : (List Int) × Int) (u : (Option Addr) × Nat × Nat) => [ownE 3 1 encI u.1 u.2.1 u.2.2 r.1]) r := by
 refine calls_v (n := 71) r hr Tryz.func44 ?_
 unfold m_recyclingref18_Of
 refine sr ?_
 refine lm_box 8 [.int .i64 _, .int .i64 _] (by kernel_rfl) rfl ?_
 intro b5
 refine la 2 ((11, .int .i64 _) :: (10, .slice _ _ _) :: _) rfl ?_
 refine nn ?_
 refine sr ?_
 refine la 2 ((19, .int .i64 _) :: (18, .slice _ _ _) :: _) rfl ?_
 refine lm_call 20 (V := (fun (r : (List Int) × Int) (u : (Option Addr) × Nat × Nat) => .tuple #[.slice u.1 u.2.1 u.2.2, .int .i64 r.2])) (HR := (fun (r : (List Int) × Int) (u : (Option Addr) × Nat × Nat) => [ownE 3 1 encI u.1 u.2.1 u.2.2 r.1])) (by kernel_rfl) (fun w1 => op_call (by kernel_rfl)) (fun r1 hr1 w1 c1 => m_recyclingref18_Counts_ok N w1 p0 p4 A_p0 n_p0 c_p0 (hr_p0.old c1) hz_p0 r1 hr1) ?_
 intro r6 u7
 refine la 5 ((13, .int .i64 _) :: (12, .slice _ _ _) :: (22, .int .i64 _) :: (21, .slice _ _ _) :: (17, .tuple _) :: _) rfl ?_
 refine nn ?_
 refine cm_seq ?_
 refine sr ?_
 refine la 2 ((24, .bool _) :: (23, .int .i64 _) :: _) rfl ?_
 refine nn ?_
 refine cm_cond (by kernel_rfl) rfl (fun h8 => ?_) (fun h8 => ?_)
 ·refine sr ?_
  refine la 3 ((11, .int .i64 _) :: (10, .slice _ _ _) :: (25, .int .i64 _) :: _) rfl ?_
  refine nn ?_
  refine cm_ret ?_
  refine xm_thenR ?_
  refine xm_nilrow 3 1 encI ?_
  exact xm_retTT rfl (by kernel_rfl) (show _ = Value.slice _ _ _ from rfl) (by kernel_rfl) (show _ = Value.int .i64 _ from rfl) fun w1 c1 => ⟨(none, 0, 0), rfl, hsub [0] (by kernel_rfl) rfl w1 c1⟩
 ·refine sk ?_
  refine cm_seq ?_
  refine sr ?_
  refine v_ 26 (fun _ c1 => oR [.int .i64 _, .int .i64 _] (c1.cells 1 rfl rfl)) ?_
  refine lm_call 27 (V := (fun (r : Bool) (_u : Unit) => .bool r)) (HR := (fun (_r : Bool) (_u : Unit) => [])) (by kernel_rfl) (fun w1 => op_call (by kernel_rfl)) (fun r1 hr1 w1 c1 => m_recyclingref18_Window_ok N w1 p3  r1 hr1) ?_
  intro r9 u10
  refine la 1 ((28, .bool _) :: _) rfl ?_
  refine nn ?_
  refine cm_condB (by kernel_rfl) rfl (fun h11 => ?_) (fun h11 => ?_)
  ·refine sr ?_
   refine la 2 ((11, .int .i64 _) :: (10, .slice _ _ _) :: _) rfl ?_
   refine nn ?_
   refine cm_ret ?_
   refine xm_thenR ?_
   refine xm_nilrow 3 1 encI ?_
   exact xm_retTT rfl (by kernel_rfl) (show _ = Value.slice _ _ _ from rfl) (by kernel_rfl) (show _ = Value.int .i64 _ from rfl) fun w1 c1 => ⟨(none, 0, 0), rfl, hsub [0] (by kernel_rfl) rfl w1 c1⟩
  ·refine sk ?_
   refine sr ?_
   refine la 1 ((14, .slice _ _ _) :: _) rfl ?_
   refine nn ?_
   refine cm_join (σ := (List Int)) (ξ := (Option Addr) × Nat × Nat) (fun s132 u133 => [(14, .slice u133.1 u133.2.1 u133.2.2)]) (fun s132 u133 => [ownE 3 1 encI u133.1 u133.2.1 u133.2.2 s132]) ?_ ?_
   ·refine sr ?_
    refine la 1 ((15, .int .i64 _) :: _) rfl ?_
    refine nn ?_
    refine cm_block ?_
    refine cm_nilrow 3 1 encI ?_
    refine cm_loop (σ := (List Int) × Int) (ξ := (Option Addr) × Nat × Nat) (fun s214 u215 => [(0, .slice A_p0 n_p0 c_p0), (1, .slice A_p1 n_p1 c_p1), (2, .int .i64 p2), (8, .pointer (some ⟨b5, 0, none⟩)), (12, .slice u7.1 u7.2.1 u7.2.2), (14, .slice u215.1 u215.2.1 u215.2.2), (15, .int .i64 s214.2)]) (fun s214 u215 => [blkE b5 34 [.int .i64 p3.From, .int .i64 p3.To], ownE 3 1 encI u7.1 u7.2.1 u7.2.2 r6.1, ownE 3 1 encI u215.1 u215.2.1 u215.2.2 s214.1]) (none, 0, 0) ?_ ?_ ?_
    ·exact sq
    ·exact sh [2, 1, 0]
    intro s214 u215
    refine cm_seq ?_
    refine sr ?_
    refine la 2 ((30, .slice _ _ _) :: (29, .int .i64 _) :: _) rfl ?_
    refine v_ 31 (fun _ c1 => op_lenN rfl (by kernel_rfl) (c1.ownZ 1 rfl).2.2) ?_
    refine la 1 ((32, .bool _) :: _) rfl ?_
    refine nn ?_
    refine cm_cond (by kernel_rfl) rfl (fun h216 => ?_) (fun h216 => ?_)
    ·refine sk ?_
     refine cm_join (σ := (List Int)) (ξ := (Option Addr) × Nat × Nat) (fun s234 u235 => [(0, .slice A_p0 n_p0 c_p0), (1, .slice A_p1 n_p1 c_p1), (2, .int .i64 p2), (8, .pointer (some ⟨b5, 0, none⟩)), (12, .slice u7.1 u7.2.1 u7.2.2), (14, .slice u235.1 u235.2.1 u235.2.2), (15, .int .i64 s214.2)]) (fun s234 u235 => [blkE b5 34 [.int .i64 p3.From, .int .i64 p3.To], ownE 3 1 encI u7.1 u7.2.1 u7.2.2 r6.1, ownE 3 1 encI u235.1 u235.2.1 u235.2.2 s234]) ?_ ?_
     ·refine cm_block ?_
      refine sr ?_
      refine la 3 ((37, .int .i64 _) :: (36, .slice _ _ _) :: (35, .slice _ _ _) :: _) rfl ?_
      refine lm_ck (fun h236 => ?_)
      refine v_ 38 (fun _ c1 => oI 1 rfl rfl ((c1.own 1 rfl encI_len).addr h236.1 h236.2) (c1.ownZ 1 rfl).2.2 h236) ?_
      refine v_ 39 (fun _ c1 => oL (v := .int .i64 (ix r6.1 s214.2)) ((c1.own 1 rfl encI_len).cell0 h236.1 h236.2 rfl)) ?_
      refine lm_ck (fun h237 => ?_)
      refine v_ 40 (fun _ c1 => oI 7 rfl rfl ((hr_p0.old c1).addr h237.1 h237.2) hz_p0.2.2 h237) ?_
      refine v_ 41 (fun _ c1 => oR [.int .i64 ((ix p0 (ix r6.1 s214.2)).ID), .int .i64 ((ix p0 (ix r6.1 s214.2)).Container), .int .i64 ((ix p0 (ix r6.1 s214.2)).Vehicle), .int .i64 ((ix p0 (ix r6.1 s214.2)).At), .int .i64 ((ix p0 (ix r6.1 s214.2)).Mass.Lo), .int .i64 ((ix p0 (ix r6.1 s214.2)).Mass.Hi), .bool ((ix p0 (ix r6.1 s214.2)).Void)] ((hr_p0.old c1).row h237.1 h237.2)) ?_
      refine lm_alloc 16 [.int .i64 0, .int .i64 0, .int .i64 0, .int .i64 0, .int .i64 0, .int .i64 0, .bool false] (v := .agg #[.int .i64 0, .int .i64 0, .int .i64 0, .int .i64 0, .int .i64 0, .int .i64 0, .bool false]) (by kernel_rfl) (by kernel_rfl) rfl ?_
      intro b238
      refine lm_storeA 0 [.int .i64 _, .int .i64 _, .int .i64 _, .int .i64 _, .int .i64 _, .int .i64 _, .bool _] [_, _, _, _, _, _, _] (H' := [blkE _ _ [_, _, _, _, _, _, _], _, _, _]) (by kernel_rfl) rfl rfl (by kernel_rfl) rfl rfl (by kernel_rfl) rfl rfl ?_
      refine nn ?_
      refine cm_seq ?_
      refine cm_callIf fun r239 h240 => ?_
      refine cm_cutE [(62, .bool (((decide (p3.From ≤ (ix p0 (ix r6.1 s214.2)).At)) && (decide ((ix p0 (ix r6.1 s214.2)).At < p3.To))) && r239))] ?_ ?_
      ·refine q_ 42 (fun _ _ => oF 0 0 rfl) ?_
       refine q_ 43 (fun _ c1 => oL (c1.cell 1 (u := .int .i64 _) rfl rfl)) ?_
       refine q_ 44 (fun _ _ => oF 3 3 rfl) ?_
       refine q_ 45 (fun _ c1 => oL (c1.cell 0 (u := .int .i64 _) rfl rfl)) ?_
       refine qd 46 (fun _ _ => op_leq rfl rfl) (fun h241 => ?_) (fun h241 => ?_)
       ·refine qa 1 ((47, .bool true) :: _) rfl ?_
        refine q_ 48 (fun _ _ => oF 3 3 rfl) ?_
        refine q_ 49 (fun _ c1 => oL (c1.cell 0 (u := .int .i64 _) rfl rfl)) ?_
        refine q_ 50 (fun _ _ => oF 1 1 rfl) ?_
        refine q_ 51 (fun _ c1 => oL (c1.cell 1 (u := .int .i64 _) rfl rfl)) ?_
        refine qd 52 (fun _ _ => op_lss rfl rfl) (fun h242 => ?_) (fun h242 => ?_)
        ·refine qa 3 ((55, .slice _ _ _) :: (54, .bool true) :: (53, .bool true) :: _) rfl ?_
         refine q_ 56 (fun _ _ => oF 1 1 rfl) ?_
         refine q_ 57 (fun _ c1 => oL (c1.cell 0 (u := .int .i64 _) rfl rfl)) ?_
         refine qa 1 ((58, .int .i64 _) :: _) rfl ?_
         refine q_ 59 (fun _ _ => oF 3 3 rfl) ?_
         refine q_ 60 (fun _ c1 => oL (c1.cell 0 (u := .int .i64 _) rfl rfl)) ?_
         refine wq_call 61 (by kernel_rfl) (fun w1 c1 => op_call (by kernel_rfl)) (fun w1 c1 => (m_recyclingref18_Belongs_ok N w1 p1 ((ix p0 (ix r6.1 s214.2)).Container) p2 ((ix p0 (ix r6.1 s214.2)).At) A_p1 n_p1 c_p1 (hr_p1.old c1) hz_p1 r239 (h240 (by rw [decide_eq_true h241, decide_eq_true h242] <;> rfl))).mono (fun _ _ ⟨_, hx, hu⟩ => ⟨hx, c1.call hu⟩)) ?_
         refine qa 1 ((62, .bool _) :: _) rfl ?_
         exact leaf_q (sub_out 21 _ rfl (by kernel_rfl) ⟨(congrArg Value.bool (by rw [decide_eq_true h241, decide_eq_true h242] <;> rfl)), trivial⟩)
        ·refine qa 10 ((62, .bool false) :: (61, undef) :: (60, undef) :: (59, undef) :: (58, undef) :: (57, undef) :: (56, undef) :: (55, undef) :: (54, .bool false) :: (53, .bool false) :: _) rfl ?_
         exact leaf_q (sub_out 21 _ rfl (by kernel_rfl) ⟨(congrArg Value.bool (by rw [decide_eq_true h241, decide_eq_false h242] <;> rfl)), trivial⟩)
       ·refine qa 16 ((62, .bool false) :: (61, undef) :: (60, undef) :: (59, undef) :: (58, undef) :: (57, undef) :: (56, undef) :: (55, undef) :: (54, .bool false) :: (53, .bool false) :: (52, undef) :: (51, undef) :: (50, undef) :: (49, undef) :: (48, undef) :: (47, .bool false) :: _) rfl ?_
        exact leaf_q (sub_out 21 _ rfl (by kernel_rfl) ⟨(congrArg Value.bool (by rw [decide_eq_false h241] <;> rfl)), trivial⟩)
      refine xm_next ?_
      refine cm_condB (by kernel_rfl) rfl (fun h243 => ?_) (fun h243 => ?_)
      ·refine cm_region ?_
       refine la 3 ((65, .int .i64 _) :: (64, .slice _ _ _) :: (63, .slice _ _ _) :: _) rfl ?_
       refine lm_ck (fun h244 => ?_)
       refine v_ 66 (fun _ c1 => oI 1 rfl rfl ((c1.own 2 rfl encI_len).addr h244.1 h244.2) (c1.ownZ 2 rfl).2.2 h244) ?_
       refine v_ 67 (fun _ c1 => oL (v := .int .i64 (ix r6.1 s214.2)) ((c1.own 2 rfl encI_len).cell0 h244.1 h244.2 rfl)) ?_
       refine lm_slice1 68 (el := 3) (sz := 1) (bytes := 8) (enc := encI) (ix r6.1 s214.2) (by kernel_rfl) (by kernel_rfl) encI_len rfl (by kernel_rfl) ?_
       intro A245 n246 k247 h248
       refine lm_ck (fun h249 => ?_)
       refine lm_append 69 4 (el := 3) (sz := 1) (bytes := 8) (enc := encI) (l2 := ([(ix r6.1 s214.2)])) (by kernel_rfl) (by kernel_rfl) encI_len encI_one rfl rfl rfl (fun w1 c1 => (c1.ownZ 0 rfl)) (fun w1 c1 => (c1.own 0 rfl encI_len)) h249 ?_ (by kernel_rfl)
       intro A250 n251 k252
       refine la 1 ((14, .slice _ _ _) :: _) rfl ?_
       refine lm_nil ?_
       refine xm_inN ?_
       exact xm_lnext (A250, n251, k252) sq (sh [2, 3, 4])
      ·refine cm_skip ?_
       refine xm_inN ?_
       exact xm_lnext (u215.1, u215.2.1, u215.2.2) sq (sh [1, 2, 3])
     intro s234 u235
     refine cm_region ?_
     refine la 1 ((33, .int .i64 _) :: _) rfl ?_
     refine lm_ck (fun h253 => ?_)
     refine v_ 34 (fun _ _ => op_add rfl rfl h253) ?_
     refine la 1 ((15, .int .i64 _) :: _) rfl ?_
     refine lm_nil ?_
     exact xm_lnext (u235.1, u235.2.1, u235.2.2) sq (sh [0, 1, 2])
    ·refine cm_exit ?_
     refine xm_thenE ?_
     refine xm_lexit ?_
     refine xm_here ?_
     exact xm_lnext (u215.1, u215.2.1, u215.2.2) sq (sh [2])
   intro s132 u133
   refine sr ?_
   refine la 3 ((11, .int .i64 _) :: (10, .slice _ _ _) :: (70, .slice _ _ _) :: _) rfl ?_
   refine nn ?_
   refine cm_ret ?_
   exact xm_retTT rfl (by kernel_rfl) (show _ = Value.slice _ _ _ from rfl) (by kernel_rfl) (show _ = Value.int .i64 _ from rfl) fun w1 c1 => ⟨(u133.1, u133.2.1, u133.2.2), rfl, hsub [0] (by kernel_rfl) rfl w1 c1⟩
/-- recyclingref53.At -/
def m_recyclingref53_At (N : Nat) (p0 : (List ApiTariff)) (p1 : Int) : Option (Int × Int) :=
 Option.bind (m_recyclingref53_Check N p0) fun r5 => (if r5 ≠ 0 then
  some (((0 : Int), r5))
 else
  (if ((decide (p1 < 0)) || (decide (36524 < p1))) = true then
   some (((0 : Int), (1 : Int)))
  else
   ck ((0 : Int) ≤ 0 ∧ 0 < (List.length p0 : Int)) (
    (if p1 < (ix p0 0).From then
     some (((0 : Int), (7 : Int)))
    else
     (andThen
      (loopM (fun (s84 : Int × Int) =>
       (if s84.2 < (List.length p0 : Int) then
        (andThen
         (ck ((0 : Int) ≤ s84.2 ∧ s84.2 < (List.length p0 : Int)) (
          (if (ix p0 s84.2).From ≤ p1 then
           some (.next s84.2)
          else
           some (.next s84.1))))
        fun (s89 : Int) =>
         ck (I64 (s84.2 + (1 : Int))) (
          some (.next (s89, (s84.2 + (1 : Int))))))
       else
        some (.done (.next s84.1)))) N ((0 : Int), (0 : Int)))
     fun (s52 : Int) =>
      some ((s52, (0 : Int))))))))
set_option maxHeartbeats 2000000 in
set_option maxRecDepth 20000 in
theorem m_recyclingref53_At_ok (N : Nat) (w0 : World) (p0 : (List ApiTariff)) (p1 : Int) (A_p0 : Option Addr) (n_p0 c_p0 : Nat) (hr_p0 : RdE w0 5 encApiTariff A_p0 p0) (hz_p0 : SW A_p0 n_p0 c_p0 (List.length p0)) (r : Int × Int) (hr : m_recyclingref53_At N p0 p1 = some r) :
  Ret Tryz.prog 45 [.slice A_p0 n_p0 c_p0, .int .i64 p1] w0 (fun (r : Int × Int) (_u : Unit) => .tuple #[.int .i64 r.1, .int .i64 r.2]) (fun (_r : Int × Int) (_u : Unit) => []) r := by
 refine calls_v (n := 41) r hr Tryz.func45 ?_
 unfold m_recyclingref53_At
 refine sr ?_
 refine la 2 ((5, .int .i64 _) :: (4, .int .i64 _) :: _) rfl ?_
 refine nn ?_
 refine sr ?_
 refine la 1 ((9, .slice _ _ _) :: _) rfl ?_
 refine lm_call 10 (V := (fun (r : Int) (_u : Unit) => .int .i64 r)) (HR := (fun (_r : Int) (_u : Unit) => [])) (by kernel_rfl) (fun w1 => op_call (by kernel_rfl)) (fun r1 hr1 w1 c1 => m_recyclingref53_Check_ok N w1 p0 A_p0 n_p0 c_p0 (hr_p0.old c1) hz_p0 r1 hr1) ?_
 intro r5 u6
 refine la 1 ((6, .int .i64 _) :: _) rfl ?_
 refine nn ?_
 refine cm_seq ?_
 refine sr ?_
 refine la 2 ((12, .bool _) :: (11, .int .i64 _) :: _) rfl ?_
 refine nn ?_
 refine cm_cond (by kernel_rfl) rfl (fun h7 => ?_) (fun h7 => ?_)
 ·refine sr ?_
  refine la 3 ((5, .int .i64 _) :: (4, .int .i64 _) :: (13, .int .i64 _) :: _) rfl ?_
  refine nn ?_
  refine cm_ret ?_
  refine xm_thenR ?_
  exact xm_retTT rfl (by kernel_rfl) (show _ = Value.int .i64 _ from rfl) (by kernel_rfl) (show _ = Value.int .i64 _ from rfl) fun w1 c1 => ⟨(), rfl, hsub [] (by kernel_rfl) rfl w1 c1⟩
 ·refine sk ?_
  refine cm_seq ?_
  refine cm_seq ?_
  refine cm_cutE [(19, .bool ((decide (p1 < 0)) || (decide (36524 < p1))))] ?_ ?_
  ·refine qa 1 ((14, .int .i64 _) :: _) rfl ?_
   refine qd 15 (fun _ _ => op_lss rfl rfl) (fun h8 => ?_) (fun h8 => ?_)
   ·refine qa 4 ((19, .bool true) :: (18, undef) :: (17, undef) :: (16, .bool true) :: _) rfl ?_
    exact leaf_q (sub_out 6 _ rfl (by kernel_rfl) ⟨(congrArg Value.bool (by rw [decide_eq_true h8] <;> rfl)), trivial⟩)
   ·refine qa 4 ((19, .bool _) :: (18, .bool _) :: (17, .int .i64 _) :: (16, .bool false) :: _) rfl ?_
    exact leaf_q (sub_out 6 _ rfl (by kernel_rfl) ⟨(congrArg Value.bool (by rw [decide_eq_false h8] <;> rfl)), trivial⟩)
  refine xm_next ?_
  refine cm_condB (by kernel_rfl) rfl (fun h9 => ?_) (fun h9 => ?_)
  ·refine sr ?_
   refine la 2 ((5, .int .i64 _) :: (4, .int .i64 _) :: _) rfl ?_
   refine nn ?_
   refine cm_ret ?_
   refine xm_thenR ?_
   exact xm_retTT rfl (by kernel_rfl) (show _ = Value.int .i64 _ from rfl) (by kernel_rfl) (show _ = Value.int .i64 _ from rfl) fun w1 c1 => ⟨(), rfl, hsub [] (by kernel_rfl) rfl w1 c1⟩
  ·refine sk ?_
   refine cm_seq ?_
   refine sr ?_
   refine la 2 ((21, .slice _ _ _) :: (20, .int .i64 _) :: _) rfl ?_
   refine lm_ck (fun h10 => ?_)
   refine v_ 22 (fun _ c1 => oI 5 rfl rfl ((hr_p0.old c1).addr h10.1 h10.2) hz_p0.2.2 h10) ?_
   refine v_ 23 (fun _ _ => op_field0 rfl (by kernel_rfl)) ?_
   refine v_ 24 (fun _ c1 => oL (v := .int .i64 ((ix p0 0).From)) ((hr_p0.old c1).cell0 h10.1 h10.2 rfl)) ?_
   refine la 1 ((25, .bool _) :: _) rfl ?_
   refine nn ?_
   refine cm_cond (by kernel_rfl) rfl (fun h11 => ?_) (fun h11 => ?_)
   ·refine sr ?_
    refine la 2 ((5, .int .i64 _) :: (4, .int .i64 _) :: _) rfl ?_
    refine nn ?_
    refine cm_ret ?_
    refine xm_thenR ?_
    exact xm_retTT rfl (by kernel_rfl) (show _ = Value.int .i64 _ from rfl) (by kernel_rfl) (show _ = Value.int .i64 _ from rfl) fun w1 c1 => ⟨(), rfl, hsub [] (by kernel_rfl) rfl w1 c1⟩
   ·refine sk ?_
    refine sr ?_
    refine la 1 ((7, .int .i64 _) :: _) rfl ?_
    refine nn ?_
    refine cm_join (σ := Int) (ξ := Unit) (fun s52 u53 => [(7, .int .i64 s52)]) (fun s52 u53 => []) ?_ ?_
    ·refine sr ?_
     refine la 1 ((8, .int .i64 _) :: _) rfl ?_
     refine nn ?_
     refine cm_block ?_
     refine cm_loop (σ := Int × Int) (ξ := Unit) (fun s84 u85 => [(0, .slice A_p0 n_p0 c_p0), (1, .int .i64 p1), (7, .int .i64 s84.1), (8, .int .i64 s84.2)]) (fun s84 u85 => []) () ?_ ?_ ?_
     ·exact sq
     ·exact sh []
     intro s84 u85
     refine cm_seq ?_
     refine sr ?_
     refine la 2 ((27, .slice _ _ _) :: (26, .int .i64 _) :: _) rfl ?_
     refine v_ 28 (fun _ _ => op_lenN rfl (by kernel_rfl) hz_p0.2.2) ?_
     refine la 1 ((29, .bool _) :: _) rfl ?_
     refine nn ?_
     refine cm_cond (by kernel_rfl) rfl (fun h86 => ?_) (fun h86 => ?_)
     ·refine sk ?_
      refine cm_join (σ := Int) (ξ := Unit) (fun s89 u90 => [(0, .slice A_p0 n_p0 c_p0), (1, .int .i64 p1), (7, .int .i64 s89), (8, .int .i64 s84.2)]) (fun s89 u90 => []) ?_ ?_
      ·refine cm_block ?_
       refine sr ?_
       refine la 2 ((33, .int .i64 _) :: (32, .slice _ _ _) :: _) rfl ?_
       refine lm_ck (fun h91 => ?_)
       refine v_ 34 (fun _ c1 => oI 5 rfl rfl ((hr_p0.old c1).addr h91.1 h91.2) hz_p0.2.2 h91) ?_
       refine v_ 35 (fun _ _ => op_field0 rfl (by kernel_rfl)) ?_
       refine v_ 36 (fun _ c1 => oL (v := .int .i64 ((ix p0 s84.2).From)) ((hr_p0.old c1).cell0 h91.1 h91.2 rfl)) ?_
       refine la 2 ((38, .bool _) :: (37, .int .i64 _) :: _) rfl ?_
       refine nn ?_
       refine cm_cond (by kernel_rfl) rfl (fun h92 => ?_) (fun h92 => ?_)
       ·refine cm_region ?_
        refine la 2 ((7, .int .i64 _) :: (39, .int .i64 _) :: _) rfl ?_
        refine lm_nil ?_
        refine xm_inN ?_
        exact xm_lnext () sq (sh [])
       ·refine cm_skip ?_
        refine xm_inN ?_
        exact xm_lnext () sq (sh [])
      intro s89 u90
      refine cm_region ?_
      refine la 1 ((30, .int .i64 _) :: _) rfl ?_
      refine lm_ck (fun h93 => ?_)
      refine v_ 31 (fun _ _ => op_add rfl rfl h93) ?_
      refine la 1 ((8, .int .i64 _) :: _) rfl ?_
      refine lm_nil ?_
      exact xm_lnext () sq (sh [])
     ·refine cm_exit ?_
      refine xm_thenE ?_
      refine xm_lexit ?_
      refine xm_here ?_
      exact xm_lnext () sq (sh [])
    intro s52 u53
    refine sr ?_
    refine la 3 ((5, .int .i64 _) :: (4, .int .i64 _) :: (40, .int .i64 _) :: _) rfl ?_
    refine nn ?_
    refine cm_ret ?_
    exact xm_retTT rfl (by kernel_rfl) (show _ = Value.int .i64 _ from rfl) (by kernel_rfl) (show _ = Value.int .i64 _ from rfl) fun w1 c1 => ⟨(), rfl, hsub [] (by kernel_rfl) rfl w1 c1⟩
/-- recyclingref53.Mass -/
def m_recyclingref53_Mass (_N : Nat) (p0 : ApiSpan) : Option (Bool) :=
 some ((((decide (0 ≤ p0.Lo)) && (decide (p0.Lo ≤ p0.Hi))) && (decide (p0.Hi ≤ 1073741824))))
set_option maxRecDepth 20000 in
theorem m_recyclingref53_Mass_ok (N : Nat) (w0 : World) (p0 : ApiSpan)   (r : Bool) (hr : m_recyclingref53_Mass N p0 = some r) :
  Ret Tryz.prog 107 [.agg #[.int .i64 p0.Lo, .int .i64 p0.Hi]] w0 (fun (r : Bool) (_u : Unit) => .bool r) (fun (_r : Bool) (_u : Unit) => []) r := by
 refine calls_v (n := 18) r hr Tryz.func107 ?_
 unfold m_recyclingref53_Mass
 refine sr ?_
 refine lm_box 1 [.int .i64 _, .int .i64 _] (by kernel_rfl) rfl ?_
 intro b5
 refine la 1 ((2, .bool false) :: _) rfl ?_
 refine nn ?_
 refine cm_seq ?_
 refine cm_cutE [(2, .bool (((decide (0 ≤ p0.Lo)) && (decide (p0.Lo ≤ p0.Hi))) && (decide (p0.Hi ≤ 1073741824))))] ?_ ?_
 ·refine q_ 3 (fun _ _ => oF 0 0 rfl) ?_
  refine q_ 4 (fun _ c1 => oL (c1.cell 0 (u := .int .i64 _) rfl rfl)) ?_
  refine qd 5 (fun _ _ => op_geq rfl rfl) (fun h6 => ?_) (fun h6 => ?_)
  ·refine qa 1 ((6, .bool true) :: _) rfl ?_
   refine q_ 7 (fun _ _ => oF 0 0 rfl) ?_
   refine q_ 8 (fun _ c1 => oL (c1.cell 0 (u := .int .i64 _) rfl rfl)) ?_
   refine q_ 9 (fun _ _ => oF 1 1 rfl) ?_
   refine q_ 10 (fun _ c1 => oL (c1.cell 0 (u := .int .i64 _) rfl rfl)) ?_
   refine qd 11 (fun _ _ => op_leq rfl rfl) (fun h7 => ?_) (fun h7 => ?_)
   ·refine qa 2 ((13, .bool true) :: (12, .bool true) :: _) rfl ?_
    refine q_ 14 (fun _ _ => oF 1 1 rfl) ?_
    refine q_ 15 (fun _ c1 => oL (c1.cell 0 (u := .int .i64 _) rfl rfl)) ?_
    refine qa 3 ((2, .bool _) :: (17, .bool _) :: (16, .bool _) :: _) rfl ?_
    exact leaf_q (sub_out 16 _ rfl (by kernel_rfl) ⟨(congrArg Value.bool (by rw [decide_eq_true h6, decide_eq_true h7] <;> rfl)), trivial⟩)
   ·refine qa 7 ((2, .bool false) :: (17, .bool false) :: (16, undef) :: (15, undef) :: (14, undef) :: (13, .bool false) :: (12, .bool false) :: _) rfl ?_
    exact leaf_q (sub_out 16 _ rfl (by kernel_rfl) ⟨(congrArg Value.bool (by rw [decide_eq_true h6, decide_eq_false h7] <;> rfl)), trivial⟩)
  ·refine qa 13 ((2, .bool false) :: (17, .bool false) :: (16, undef) :: (15, undef) :: (14, undef) :: (13, .bool false) :: (12, .bool false) :: (11, undef) :: (10, undef) :: (9, undef) :: (8, undef) :: (7, undef) :: (6, .bool false) :: _) rfl ?_
   exact leaf_q (sub_out 16 _ rfl (by kernel_rfl) ⟨(congrArg Value.bool (by rw [decide_eq_false h6] <;> rfl)), trivial⟩)
 refine xm_next ?_
 refine cm_ret ?_
 exact xm_retT rfl (by kernel_rfl) (show _ = Value.bool _ from rfl) fun w1 c1 => ⟨(), rfl, hsub [] (by kernel_rfl) rfl w1 c1⟩
/-- recyclingref53.Weight -/
def m_recyclingref53_Weight (N : Nat) (p0 : ApiTariff) (p1 : ApiSpan) : Option (Int × Int) :=
 Option.bind (m_recyclingref53_Usable N p0) fun r7 => callIf ((!(!r7)) = true) (m_recyclingref53_Mass N p1) fun r9 => (if ((!r7) || (!r9)) = true then
  some (((0 : Int), (1 : Int)))
 else
  ck (I64 p1.Lo) (
   ck (I64 ((Int.tdiv p1.Lo 1000) - p0.Free)) (
    (andThen
     (if ((Int.tdiv p1.Lo 1000) - p0.Free) < 0 then
      some (.next (0 : Int))
     else
      some (.next ((Int.tdiv p1.Lo 1000) - p0.Free)))
    fun (s16 : Int) =>
     some ((s16, (0 : Int)))))))
set_option maxRecDepth 20000 in
theorem m_recyclingref53_Weight_ok (N : Nat) (w0 : World) (p0 : ApiTariff) (p1 : ApiSpan)   (r : Int × Int) (hr : m_recyclingref53_Weight N p0 p1 = some r) :
  Ret Tryz.prog 88 [.agg #[.int .i64 p0.From, .int .i64 p0.Base, .int .i64 p0.Empty, .int .i64 p0.Kilo, .int .i64 p0.Free], .agg #[.int .i64 p1.Lo, .int .i64 p1.Hi]] w0 (fun (r : Int × Int) (_u : Unit) => .tuple #[.int .i64 r.1, .int .i64 r.2]) (fun (_r : Int × Int) (_u : Unit) => []) r := by
 refine calls_v (n := 24) r hr Tryz.func88 ?_
 unfold m_recyclingref53_Weight
 refine sr ?_
 refine lm_box 2 [.int .i64 _, .int .i64 _, .int .i64 _, .int .i64 _, .int .i64 _] (by kernel_rfl) rfl ?_
 intro b5
 refine lm_box 3 [.int .i64 _, .int .i64 _] (by kernel_rfl) rfl ?_
 intro b6
 refine la 2 ((5, .int .i64 _) :: (4, .int .i64 _) :: _) rfl ?_
 refine nn ?_
 refine cm_seq ?_
 refine cm_seq ?_
 refine cm_bind fun r7 h8 => ?_
 refine cm_callIf fun r9 h10 => ?_
 refine cm_cutE [(14, .bool ((!r7) || (!r9)))] ?_ ?_
 ·refine q_ 7 (fun _ c1 => oR [.int .i64 _, .int .i64 _, .int .i64 _, .int .i64 _, .int .i64 _] (c1.cells 1 rfl rfl)) ?_
  refine wq_callb 8 (by kernel_rfl) (fun w1 c1 => op_call (by kernel_rfl)) (fun w1 c1 => (m_recyclingref53_Usable_ok N w1 p0  r7 h8).mono (fun _ _ ⟨_, hx, hu⟩ => ⟨hx, c1.call hu⟩)) (fun h11 => ?_) (fun h11 => ?_)
  ·refine qa 2 ((10, .bool false) :: (9, .bool false) :: _) rfl ?_
   refine q_ 11 (fun _ c1 => oR [.int .i64 _, .int .i64 _] (c1.cells 0 rfl rfl)) ?_
   refine wq_call 12 (by kernel_rfl) (fun w1 c1 => op_call (by kernel_rfl)) (fun w1 c1 => (m_recyclingref53_Mass_ok N w1 p1  r9 (h10 (by rw [h11] <;> rfl))).mono (fun _ _ ⟨_, hx, hu⟩ => ⟨hx, c1.call hu⟩)) ?_
   refine qa 2 ((14, .bool _) :: (13, .bool _) :: _) rfl ?_
   exact leaf_q (sub_out 8 _ rfl (by kernel_rfl) ⟨(congrArg Value.bool (by rw [h11] <;> rfl)), trivial⟩)
  ·refine qa 6 ((14, .bool true) :: (13, undef) :: (12, undef) :: (11, undef) :: (10, .bool true) :: (9, .bool true) :: _) rfl ?_
   exact leaf_q (sub_out 8 _ rfl (by kernel_rfl) ⟨(congrArg Value.bool (by rw [h11] <;> rfl)), trivial⟩)
 refine xm_next ?_
 refine cm_condB (by kernel_rfl) rfl (fun h12 => ?_) (fun h12 => ?_)
 ·refine sr ?_
  refine la 2 ((5, .int .i64 _) :: (4, .int .i64 _) :: _) rfl ?_
  refine nn ?_
  refine cm_ret ?_
  refine xm_thenR ?_
  exact xm_retTT rfl (by kernel_rfl) (show _ = Value.int .i64 _ from rfl) (by kernel_rfl) (show _ = Value.int .i64 _ from rfl) fun w1 c1 => ⟨(), rfl, hsub [] (by kernel_rfl) rfl w1 c1⟩
 ·refine sk ?_
  refine sr ?_
  refine v_ 15 (fun _ _ => oF 0 0 rfl) ?_
  refine v_ 16 (fun _ c1 => oL (c1.cell 0 (u := .int .i64 _) rfl rfl)) ?_
  refine lm_ck (fun h13 => ?_)
  refine v_ 17 (fun _ _ => op_quoK rfl rfl (by kernel_rfl) h13) ?_
  refine v_ 18 (fun _ _ => oF 4 4 rfl) ?_
  refine v_ 19 (fun _ c1 => oL (c1.cell 1 (u := .int .i64 _) rfl rfl)) ?_
  refine lm_ck (fun h14 => ?_)
  refine v_ 20 (fun _ _ => op_sub rfl rfl h14) ?_
  refine la 1 ((6, .int .i64 _) :: _) rfl ?_
  refine nn ?_
  refine cm_join (σ := Int) (ξ := Unit) (fun s16 u17 => [(6, .int .i64 s16)]) (fun s16 u17 => []) ?_ ?_
  ·refine sr ?_
   refine la 2 ((22, .bool _) :: (21, .int .i64 _) :: _) rfl ?_
   refine nn ?_
   refine cm_cond (by kernel_rfl) rfl (fun h18 => ?_) (fun h18 => ?_)
   ·refine cm_region ?_
    refine la 1 ((6, .int .i64 _) :: _) rfl ?_
    refine lm_nil ?_
    exact xm_lnext () sq (sh [])
   ·refine cm_skip ?_
    exact xm_lnext () sq (sh [])
  intro s16 u17
  refine sr ?_
  refine la 3 ((5, .int .i64 _) :: (4, .int .i64 _) :: (23, .int .i64 _) :: _) rfl ?_
  refine nn ?_
  refine cm_ret ?_
  exact xm_retTT rfl (by kernel_rfl) (show _ = Value.int .i64 _ from rfl) (by kernel_rfl) (show _ = Value.int .i64 _ from rfl) fun w1 c1 => ⟨(), rfl, hsub [] (by kernel_rfl) rfl w1 c1⟩
/-- recyclingref53.Items -/
def m_recyclingref53_Items (N : Nat) (p0 : ApiTariff) (p1 : ApiEmptying) : Option ((List ApiItem) × Int) :=
 Option.bind (m_recyclingref53_Weight N p0 p1.Mass) fun r7 => (if (((decide (r7.2 ≠ 0)) || (decide (p1.ID < 1))) || (decide (1000000 < p1.ID))) = true then
  some ((([] : List ApiItem), (1 : Int)))
 else
  (andThen
   (if 0 < r7.1 then
    ck (I64 (r7.1 * p0.Kilo)) (
     ck ((List.length ([(ApiItem.mk 2 p1.ID 1 p0.Empty p0.Empty)]) + List.length ([(ApiItem.mk 3 p1.ID r7.1 p0.Kilo (r7.1 * p0.Kilo))])) * 40 ≤ 140737488355328) (
      some (.next (([(ApiItem.mk 2 p1.ID 1 p0.Empty p0.Empty)]) ++ ([(ApiItem.mk 3 p1.ID r7.1 p0.Kilo (r7.1 * p0.Kilo))])))))
   else
    some (.next ([(ApiItem.mk 2 p1.ID 1 p0.Empty p0.Empty)])))
  fun (s26 : (List ApiItem)) =>
   some ((s26, (0 : Int)))))
set_option maxHeartbeats 2000000 in
set_option maxRecDepth 20000 in
theorem m_recyclingref53_Items_ok (N : Nat) (w0 : World) (p0 : ApiTariff) (p1 : ApiEmptying)   (r : (List ApiItem) × Int) (hr : m_recyclingref53_Items N p0 p1 = some r) :
  Ret Tryz.prog 46 [.agg #[.int .i64 p0.From, .int .i64 p0.Base, .int .i64 p0.Empty, .int .i64 p0.Kilo, .int .i64 p0.Free], .agg #[.int .i64 p1.ID, .int .i64 p1.Container, .int .i64 p1.Vehicle, .int .i64 p1.At, .int .i64 p1.Mass.Lo, .int .i64 p1.Mass.Hi, .bool p1.Void]] w0 (fun (r : (List ApiItem) × Int) (u : (Option Addr) × Nat × Nat) => .tuple #[.slice u.1 u.2.1 u.2.2, .int .i64 r.2]) (fun (r : (List ApiItem) × Int) (u : (Option Addr) × Nat × Nat) => [ownE 66 5 encApiItem u.1 u.2.1 u.2.2 r.1]) r := by
 refine calls_v (n := 52) r hr Tryz.func46 ?_
 unfold m_recyclingref53_Items
 refine sr ?_
 refine lm_box 2 [.int .i64 _, .int .i64 _, .int .i64 _, .int .i64 _, .int .i64 _] (by kernel_rfl) rfl ?_
 intro b5
 refine lm_box 3 [.int .i64 _, .int .i64 _, .int .i64 _, .int .i64 _, .int .i64 _, .int .i64 _, .bool _] (by kernel_rfl) rfl ?_
 intro b6
 refine la 2 ((5, .int .i64 _) :: (4, .slice _ _ _) :: _) rfl ?_
 refine nn ?_
 refine sr ?_
 refine v_ 10 (fun _ c1 => oR [.int .i64 _, .int .i64 _, .int .i64 _, .int .i64 _, .int .i64 _] (c1.cells 1 rfl rfl)) ?_
 refine v_ 11 (fun _ _ => oF 4 4 rfl) ?_
 refine v_ 12 (fun _ c1 => oR [.int .i64 _, .int .i64 _] (c1.cells 0 rfl rfl)) ?_
 refine lm_call 13 (V := (fun (r : Int × Int) (_u : Unit) => .tuple #[.int .i64 r.1, .int .i64 r.2])) (HR := (fun (_r : Int × Int) (_u : Unit) => [])) (by kernel_rfl) (fun w1 => op_call (by kernel_rfl)) (fun r1 hr1 w1 c1 => m_recyclingref53_Weight_ok N w1 p0 p1.Mass  r1 hr1) ?_
 intro r7 u8
 refine la 5 ((7, .int .i64 _) :: (6, .int .i64 _) :: (15, .int .i64 _) :: (14, .int .i64 _) :: (9, .tuple _) :: _) rfl ?_
 refine nn ?_
 refine cm_seq ?_
 refine cm_seq ?_
 refine cm_cutE [(27, .bool (((decide (r7.2 ≠ 0)) || (decide (p1.ID < 1))) || (decide (1000000 < p1.ID))))] ?_ ?_
 ·refine qa 1 ((16, .int .i64 _) :: _) rfl ?_
  refine qd 17 (fun _ _ => op_neq rfl rfl) (fun h9 => ?_) (fun h9 => ?_)
  ·refine qa 10 ((27, .bool true) :: (26, undef) :: (25, undef) :: (24, undef) :: (23, .bool true) :: (22, .bool true) :: (21, undef) :: (20, undef) :: (19, undef) :: (18, .bool true) :: _) rfl ?_
   exact leaf_q (sub_out 12 _ rfl (by kernel_rfl) ⟨(congrArg Value.bool (by rw [decide_eq_true h9] <;> rfl)), trivial⟩)
  ·refine qa 1 ((18, .bool false) :: _) rfl ?_
   refine q_ 19 (fun _ _ => oF 0 0 rfl) ?_
   refine q_ 20 (fun _ c1 => oL (c1.cell 0 (u := .int .i64 _) rfl rfl)) ?_
   refine qd 21 (fun _ _ => op_lss rfl rfl) (fun h10 => ?_) (fun h10 => ?_)
   ·refine qa 6 ((27, .bool true) :: (26, undef) :: (25, undef) :: (24, undef) :: (23, .bool true) :: (22, .bool true) :: _) rfl ?_
    exact leaf_q (sub_out 12 _ rfl (by kernel_rfl) ⟨(congrArg Value.bool (by rw [decide_eq_false h9, decide_eq_true h10] <;> rfl)), trivial⟩)
   ·refine qa 2 ((23, .bool false) :: (22, .bool false) :: _) rfl ?_
    refine q_ 24 (fun _ _ => oF 0 0 rfl) ?_
    refine q_ 25 (fun _ c1 => oL (c1.cell 0 (u := .int .i64 _) rfl rfl)) ?_
    refine qa 2 ((27, .bool _) :: (26, .bool _) :: _) rfl ?_
    exact leaf_q (sub_out 12 _ rfl (by kernel_rfl) ⟨(congrArg Value.bool (by rw [decide_eq_false h9, decide_eq_false h10] <;> rfl)), trivial⟩)
 refine xm_next ?_
 refine cm_condB (by kernel_rfl) rfl (fun h11 => ?_) (fun h11 => ?_)
 ·refine sr ?_
  refine la 2 ((5, .int .i64 _) :: (4, .slice _ _ _) :: _) rfl ?_
  refine nn ?_
  refine cm_ret ?_
  refine xm_thenR ?_
  refine xm_nilrow 66 5 encApiItem ?_
  exact xm_retTT rfl (by kernel_rfl) (show _ = Value.slice _ _ _ from rfl) (by kernel_rfl) (show _ = Value.int .i64 _ from rfl) fun w1 c1 => ⟨(none, 0, 0), rfl, hsub [0] (by kernel_rfl) rfl w1 c1⟩
 ·refine sk ?_
  refine sr ?_
  refine v_ 28 (fun _ _ => oF 0 0 rfl) ?_
  refine v_ 29 (fun _ c1 => oL (c1.cell 0 (u := .int .i64 _) rfl rfl)) ?_
  refine v_ 30 (fun _ _ => oF 2 2 rfl) ?_
  refine v_ 31 (fun _ c1 => oL (c1.cell 1 (u := .int .i64 _) rfl rfl)) ?_
  refine v_ 32 (fun _ _ => oF 2 2 rfl) ?_
  refine v_ 33 (fun _ c1 => oL (c1.cell 1 (u := .int .i64 _) rfl rfl)) ?_
  refine v_ 34 (fun _ _ => op_build (z := [.int .i64 0, .int .i64 0, .int .i64 0, .int .i64 0, .int .i64 0]) (tab := [(0, 1), (1, 1), (2, 1), (3, 1), (4, 1)]) (cs := [.int .i64 _, .int .i64 _, .int .i64 _, .int .i64 _, .int .i64 _]) [(0, [.int .i64 _]), (1, [.int .i64 _]), (2, [.int .i64 _]), (3, [.int .i64 _]), (4, [.int .i64 _])] (by kernel_rfl) (by kernel_rfl) (fillOk_cons rfl rfl rfl (fillOk_cons rfl rfl rfl (fillOk_cons rfl rfl rfl (fillOk_cons rfl rfl rfl (fillOk_cons rfl rfl rfl fillOk_nil))))) rfl) ?_
  refine lm_slice1 35 (el := 66) (sz := 5) (bytes := 40) (enc := encApiItem) (ApiItem.mk 2 p1.ID 1 p0.Empty p0.Empty) (by kernel_rfl) (by kernel_rfl) encApiItem_len rfl (by kernel_rfl) ?_
  intro A12 n13 k14 h15
  refine la 1 ((8, .slice _ _ _) :: _) rfl ?_
  refine nn ?_
  refine cm_join (σ := (List ApiItem)) (ξ := (Option Addr) × Nat × Nat) (fun s26 u27 => [(8, .slice u27.1 u27.2.1 u27.2.2)]) (fun s26 u27 => [ownE 66 5 encApiItem u27.1 u27.2.1 u27.2.2 s26]) ?_ ?_
  ·refine sr ?_
   refine la 2 ((37, .bool _) :: (36, .int .i64 _) :: _) rfl ?_
   refine nn ?_
   refine cm_cond (by kernel_rfl) rfl (fun h28 => ?_) (fun h28 => ?_)
   ·refine cm_region ?_
    refine la 1 ((38, .slice _ _ _) :: _) rfl ?_
    refine v_ 39 (fun _ _ => oF 0 0 rfl) ?_
    refine v_ 40 (fun _ c1 => oL (c1.cell 1 (u := .int .i64 _) rfl rfl)) ?_
    refine la 1 ((41, .int .i64 _) :: _) rfl ?_
    refine v_ 42 (fun _ _ => oF 3 3 rfl) ?_
    refine v_ 43 (fun _ c1 => oL (c1.cell 2 (u := .int .i64 _) rfl rfl)) ?_
    refine la 1 ((44, .int .i64 _) :: _) rfl ?_
    refine v_ 45 (fun _ _ => oF 3 3 rfl) ?_
    refine v_ 46 (fun _ c1 => oL (c1.cell 2 (u := .int .i64 _) rfl rfl)) ?_
    refine lm_ck (fun h29 => ?_)
    refine v_ 47 (fun _ _ => op_mul rfl rfl h29) ?_
    refine v_ 48 (fun _ _ => op_build (z := [.int .i64 0, .int .i64 0, .int .i64 0, .int .i64 0, .int .i64 0]) (tab := [(0, 1), (1, 1), (2, 1), (3, 1), (4, 1)]) (cs := [.int .i64 _, .int .i64 _, .int .i64 _, .int .i64 _, .int .i64 _]) [(0, [.int .i64 _]), (1, [.int .i64 _]), (2, [.int .i64 _]), (3, [.int .i64 _]), (4, [.int .i64 _])] (by kernel_rfl) (by kernel_rfl) (fillOk_cons rfl rfl rfl (fillOk_cons rfl rfl rfl (fillOk_cons rfl rfl rfl (fillOk_cons rfl rfl rfl (fillOk_cons rfl rfl rfl fillOk_nil))))) rfl) ?_
    refine lm_slice1 49 (el := 66) (sz := 5) (bytes := 40) (enc := encApiItem) (ApiItem.mk 3 p1.ID r7.1 p0.Kilo (r7.1 * p0.Kilo)) (by kernel_rfl) (by kernel_rfl) encApiItem_len rfl (by kernel_rfl) ?_
    intro A30 n31 k32 h33
    refine lm_ck (fun h34 => ?_)
    refine lm_append 50 1 (el := 66) (sz := 5) (bytes := 40) (enc := encApiItem) (l2 := ([(ApiItem.mk 3 p1.ID r7.1 p0.Kilo (r7.1 * p0.Kilo))])) (by kernel_rfl) (by kernel_rfl) encApiItem_len encApiItem_one rfl rfl rfl (fun w1 c1 => (c1.ownZ 0 rfl)) (fun w1 c1 => (c1.own 0 rfl encApiItem_len)) h34 ?_ (by kernel_rfl)
    intro A35 n36 k37
    refine la 1 ((8, .slice _ _ _) :: _) rfl ?_
    refine lm_nil ?_
    exact xm_lnext (A35, n36, k37) sq (sh [1])
   ·refine cm_skip ?_
    exact xm_lnext (A12, n13, k14) sq (sh [0])
  intro s26 u27
  refine sr ?_
  refine la 3 ((5, .int .i64 _) :: (4, .slice _ _ _) :: (51, .slice _ _ _) :: _) rfl ?_
  refine nn ?_
  refine cm_ret ?_
  exact xm_retTT rfl (by kernel_rfl) (show _ = Value.slice _ _ _ from rfl) (by kernel_rfl) (show _ = Value.int .i64 _ from rfl) fun w1 c1 => ⟨(u27.1, u27.2.1, u27.2.2), rfl, hsub [0] (by kernel_rfl) rfl w1 c1⟩
/-- recyclingref53.Base -/
def m_recyclingref53_Base (N : Nat) (p0 : (List ApiTariff)) (p1 : ApiWindow) : Option ((List ApiItem) × Int) :=
 Option.bind (m_recyclingref53_Check N p0) fun r6 => (if r6 ≠ 0 then
  some ((([] : List ApiItem), r6))
 else
  (if (((decide (p1.From < 0)) || (decide (p1.To < p1.From))) || (decide (36525 < p1.To))) = true then
   some ((([] : List ApiItem), (1 : Int)))
  else
   ck (decide (p1.From < p1.To) = true → (0 : Int) ≤ 0 ∧ 0 < (List.length p0 : Int)) (
    (if ((decide (p1.From < p1.To)) && (decide (p1.From < (ix p0 0).From))) = true then
     some ((([] : List ApiItem), (7 : Int)))
    else
     (andThen
      (loopM (fun (s1819 : (List ApiItem) × Int) =>
       (if s1819.2 < (List.length p0 : Int) then
        (andThen
         (andThen
          (loopM (fun (s2112 : Int × Int) =>
           (if s2112.2 < p1.To then
            (andThen
             (ck ((0 : Int) ≤ s1819.2 ∧ s1819.2 < (List.length p0 : Int)) (
              ck (decide ((ix p0 s1819.2).From ≤ s2112.2) = true → I64 (s1819.2 + (1 : Int))) (
               ck (((decide ((ix p0 s1819.2).From ≤ s2112.2)) && (!(decide ((s1819.2 + (1 : Int)) = (List.length p0 : Int))))) = true → I64 (s1819.2 + (1 : Int))) (
                ck (((decide ((ix p0 s1819.2).From ≤ s2112.2)) && (!(decide ((s1819.2 + (1 : Int)) = (List.length p0 : Int))))) = true → (0 : Int) ≤ (s1819.2 + (1 : Int)) ∧ (s1819.2 + (1 : Int)) < (List.length p0 : Int)) (
                 (if ((decide ((ix p0 s1819.2).From ≤ s2112.2)) && ((decide ((s1819.2 + (1 : Int)) = (List.length p0 : Int))) || (decide (s2112.2 < (ix p0 (s1819.2 + (1 : Int))).From)))) = true then
                  ck (I64 (s2112.1 + (1 : Int))) (
                   some (.next (s2112.1 + (1 : Int))))
                 else
                  some (.next s2112.1)))))))
            fun (s2123 : Int) =>
             ck (I64 (s2112.2 + (1 : Int))) (
              some (.next (s2123, (s2112.2 + (1 : Int))))))
           else
            some (.done (.next s2112.1)))) N ((0 : Int), p1.From))
         fun (s2066 : Int) =>
          (if 0 < s2066 then
           ck ((0 : Int) ≤ s1819.2 ∧ s1819.2 < (List.length p0 : Int)) (
            ck ((0 : Int) ≤ s1819.2 ∧ s1819.2 < (List.length p0 : Int)) (
             ck (I64 (s2066 * ((ix p0 s1819.2).Base))) (
              ck ((List.length s1819.1 + List.length ([(ApiItem.mk 1 s1819.2 s2066 ((ix p0 s1819.2).Base) (s2066 * ((ix p0 s1819.2).Base)))])) * 40 ≤ 140737488355328) (
               some (.next (s1819.1 ++ ([(ApiItem.mk 1 s1819.2 s2066 ((ix p0 s1819.2).Base) (s2066 * ((ix p0 s1819.2).Base)))])))))))
          else
           some (.next s1819.1)))
        fun (s1998 : (List ApiItem)) =>
         ck (I64 (s1819.2 + (1 : Int))) (
          some (.next (s1998, (s1819.2 + (1 : Int))))))
       else
        some (.done (.next s1819.1)))) N (([] : List ApiItem), (0 : Int)))
     fun (s1095 : (List ApiItem)) =>
      some ((s1095, (0 : Int))))))))
set_option maxHeartbeats 2000000 in
set_option maxRecDepth 20000 in
theorem m_recyclingref53_Base_ok (N : Nat) (w0 : World) (p0 : (List ApiTariff)) (p1 : ApiWindow) (A_p0 : Option Addr) (n_p0 c_p0 : Nat) (hr_p0 : RdE w0 5 encApiTariff A_p0 p0) (hz_p0 : SW A_p0 n_p0 c_p0 (List.length p0)) (r : (List ApiItem) × Int) (hr : m_recyclingref53_Base N p0 p1 = some r) :
  Ret Tryz.prog 43 [.slice A_p0 n_p0 c_p0, .agg #[.int .i64 p1.From, .int .i64 p1.To]] w0 (fun (r : (List ApiItem) × Int) (u : (Option Addr) × Nat × Nat) => .tuple #[.slice u.1 u.2.1 u.2.2, .int .i64 r.2]) (fun (r : (List ApiItem) × Int) (u : (Option Addr) × Nat × Nat) => [ownE 66 5 encApiItem u.1 u.2.1 u.2.2 r.1]) r := by
 refine calls_v (n := 106) r hr Tryz.func43 ?_
 unfold m_recyclingref53_Base
 refine sr ?_
 refine lm_box 3 [.int .i64 _, .int .i64 _] (by kernel_rfl) rfl ?_
 intro b5
 refine la 2 ((5, .int .i64 _) :: (4, .slice _ _ _) :: _) rfl ?_
 refine nn ?_
 refine sr ?_
 refine la 1 ((11, .slice _ _ _) :: _) rfl ?_
 refine lm_call 12 (V := (fun (r : Int) (_u : Unit) => .int .i64 r)) (HR := (fun (_r : Int) (_u : Unit) => [])) (by kernel_rfl) (fun w1 => op_call (by kernel_rfl)) (fun r1 hr1 w1 c1 => m_recyclingref53_Check_ok N w1 p0 A_p0 n_p0 c_p0 (hr_p0.old c1) hz_p0 r1 hr1) ?_
 intro r6 u7
 refine la 1 ((6, .int .i64 _) :: _) rfl ?_
 refine nn ?_
 refine cm_seq ?_
 refine sr ?_
 refine la 2 ((14, .bool _) :: (13, .int .i64 _) :: _) rfl ?_
 refine nn ?_
 refine cm_cond (by kernel_rfl) rfl (fun h8 => ?_) (fun h8 => ?_)
 ·refine sr ?_
  refine la 3 ((5, .int .i64 _) :: (4, .slice _ _ _) :: (15, .int .i64 _) :: _) rfl ?_
  refine nn ?_
  refine cm_ret ?_
  refine xm_thenR ?_
  refine xm_nilrow 66 5 encApiItem ?_
  exact xm_retTT rfl (by kernel_rfl) (show _ = Value.slice _ _ _ from rfl) (by kernel_rfl) (show _ = Value.int .i64 _ from rfl) fun w1 c1 => ⟨(none, 0, 0), rfl, hsub [0] (by kernel_rfl) rfl w1 c1⟩
 ·refine sk ?_
  refine cm_seq ?_
  refine cm_seq ?_
  refine cm_cutE [(30, .bool (((decide (p1.From < 0)) || (decide (p1.To < p1.From))) || (decide (36525 < p1.To))))] ?_ ?_
  ·refine q_ 16 (fun _ _ => oF 0 0 rfl) ?_
   refine q_ 17 (fun _ c1 => oL (c1.cell 0 (u := .int .i64 _) rfl rfl)) ?_
   refine qd 18 (fun _ _ => op_lss rfl rfl) (fun h9 => ?_) (fun h9 => ?_)
   ·refine qa 12 ((30, .bool true) :: (29, undef) :: (28, undef) :: (27, undef) :: (26, .bool true) :: (25, .bool true) :: (24, undef) :: (23, undef) :: (22, undef) :: (21, undef) :: (20, undef) :: (19, .bool true) :: _) rfl ?_
    exact leaf_q (sub_out 15 _ rfl (by kernel_rfl) ⟨(congrArg Value.bool (by rw [decide_eq_true h9] <;> rfl)), trivial⟩)
   ·refine qa 1 ((19, .bool false) :: _) rfl ?_
    refine q_ 20 (fun _ _ => oF 0 0 rfl) ?_
    refine q_ 21 (fun _ c1 => oL (c1.cell 0 (u := .int .i64 _) rfl rfl)) ?_
    refine q_ 22 (fun _ _ => oF 1 1 rfl) ?_
    refine q_ 23 (fun _ c1 => oL (c1.cell 0 (u := .int .i64 _) rfl rfl)) ?_
    refine qd 24 (fun _ _ => op_gtr rfl rfl) (fun h10 => ?_) (fun h10 => ?_)
    ·refine qa 6 ((30, .bool true) :: (29, undef) :: (28, undef) :: (27, undef) :: (26, .bool true) :: (25, .bool true) :: _) rfl ?_
     exact leaf_q (sub_out 15 _ rfl (by kernel_rfl) ⟨(congrArg Value.bool (by rw [decide_eq_false h9, decide_eq_true h10] <;> rfl)), trivial⟩)
    ·refine qa 2 ((26, .bool false) :: (25, .bool false) :: _) rfl ?_
     refine q_ 27 (fun _ _ => oF 1 1 rfl) ?_
     refine q_ 28 (fun _ c1 => oL (c1.cell 0 (u := .int .i64 _) rfl rfl)) ?_
     refine qa 2 ((30, .bool _) :: (29, .bool _) :: _) rfl ?_
     exact leaf_q (sub_out 15 _ rfl (by kernel_rfl) ⟨(congrArg Value.bool (by rw [decide_eq_false h9, decide_eq_false h10] <;> rfl)), trivial⟩)
  refine xm_next ?_
  refine cm_condB (by kernel_rfl) rfl (fun h11 => ?_) (fun h11 => ?_)
  ·refine sr ?_
   refine la 2 ((5, .int .i64 _) :: (4, .slice _ _ _) :: _) rfl ?_
   refine nn ?_
   refine cm_ret ?_
   refine xm_thenR ?_
   refine xm_nilrow 66 5 encApiItem ?_
   exact xm_retTT rfl (by kernel_rfl) (show _ = Value.slice _ _ _ from rfl) (by kernel_rfl) (show _ = Value.int .i64 _ from rfl) fun w1 c1 => ⟨(none, 0, 0), rfl, hsub [0] (by kernel_rfl) rfl w1 c1⟩
  ·refine sk ?_
   refine cm_seq ?_
   refine cm_seq ?_
   refine cm_ck (fun h12 => ?_)
   refine cm_drawn [(44, .bool ((decide (p1.From < p1.To)) && (decide (p1.From < (ix p0 0).From))))] (by kernel_rfl) (by kernel_rfl) ?_ ?_
   ·refine q_ 31 (fun _ _ => oF 0 0 rfl) ?_
    refine q_ 32 (fun _ c1 => oL (c1.cell 0 (u := .int .i64 _) rfl rfl)) ?_
    refine q_ 33 (fun _ _ => oF 1 1 rfl) ?_
    refine q_ 34 (fun _ c1 => oL (c1.cell 0 (u := .int .i64 _) rfl rfl)) ?_
    refine qd 35 (fun _ _ => op_lss rfl rfl) (fun h13 => ?_) (fun h13 => ?_)
    ·refine qa 1 ((36, .bool true) :: _) rfl ?_
     refine q_ 37 (fun _ _ => oF 0 0 rfl) ?_
     refine q_ 38 (fun _ c1 => oL (c1.cell 0 (u := .int .i64 _) rfl rfl)) ?_
     refine qa 1 ((39, .slice _ _ _) :: _) rfl ?_
     refine q_ 40 (fun _ c1 => oI 5 rfl rfl ((hr_p0.old c1).addr (h12 (by rw [decide_eq_true h13] <;> rfl)).1 (h12 (by rw [decide_eq_true h13] <;> rfl)).2) hz_p0.2.2 (h12 (by rw [decide_eq_true h13] <;> rfl))) ?_
     refine q_ 41 (fun _ _ => op_field0 rfl (by kernel_rfl)) ?_
     refine q_ 42 (fun _ c1 => oL (v := .int .i64 ((ix p0 0).From)) ((hr_p0.old c1).cell0 (h12 (by rw [decide_eq_true h13] <;> rfl)).1 (h12 (by rw [decide_eq_true h13] <;> rfl)).2 rfl)) ?_
     refine qa 2 ((44, .bool _) :: (43, .bool _) :: _) rfl ?_
     exact leaf_q (sub_out 14 _ rfl (by kernel_rfl) ⟨(congrArg Value.bool (by rw [decide_eq_true h13] <;> rfl)), trivial⟩)
    ·refine qa 9 ((44, .bool false) :: (43, undef) :: (42, undef) :: (41, undef) :: (40, undef) :: (39, undef) :: (38, undef) :: (37, undef) :: (36, .bool false) :: _) rfl ?_
     exact leaf_q (sub_out 14 _ rfl (by kernel_rfl) ⟨(congrArg Value.bool (by rw [decide_eq_false h13] <;> rfl)), trivial⟩)
   refine xm_next ?_
   refine cm_condB (by kernel_rfl) rfl (fun h14 => ?_) (fun h14 => ?_)
   ·refine sr ?_
    refine la 2 ((5, .int .i64 _) :: (4, .slice _ _ _) :: _) rfl ?_
    refine nn ?_
    refine cm_ret ?_
    refine xm_thenR ?_
    refine xm_nilrow 66 5 encApiItem ?_
    exact xm_retTT rfl (by kernel_rfl) (show _ = Value.slice _ _ _ from rfl) (by kernel_rfl) (show _ = Value.int .i64 _ from rfl) fun w1 c1 => ⟨(none, 0, 0), rfl, hsub [0] (by kernel_rfl) rfl w1 c1⟩
   ·refine sk ?_
    refine sr ?_
    refine la 1 ((7, .slice _ _ _) :: _) rfl ?_
    refine nn ?_
    refine cm_join (σ := (List ApiItem)) (ξ := (Option Addr) × Nat × Nat) (fun s1095 u1096 => [(7, .slice u1096.1 u1096.2.1 u1096.2.2)]) (fun s1095 u1096 => [ownE 66 5 encApiItem u1096.1 u1096.2.1 u1096.2.2 s1095]) ?_ ?_
    ·refine sr ?_
     refine la 1 ((8, .int .i64 _) :: _) rfl ?_
     refine nn ?_
     refine cm_block ?_
     refine cm_nilrow 66 5 encApiItem ?_
     refine cm_loop (σ := (List ApiItem) × Int) (ξ := (Option Addr) × Nat × Nat) (fun s1819 u1820 => [(0, .slice A_p0 n_p0 c_p0), (3, .pointer (some ⟨b5, 0, none⟩)), (7, .slice u1820.1 u1820.2.1 u1820.2.2), (8, .int .i64 s1819.2)]) (fun s1819 u1820 => [blkE b5 34 [.int .i64 p1.From, .int .i64 p1.To], ownE 66 5 encApiItem u1820.1 u1820.2.1 u1820.2.2 s1819.1]) (none, 0, 0) ?_ ?_ ?_
     ·exact sq
     ·exact sh [1, 0]
     intro s1819 u1820
     refine cm_seq ?_
     refine sr ?_
     refine la 2 ((46, .slice _ _ _) :: (45, .int .i64 _) :: _) rfl ?_
     refine v_ 47 (fun _ _ => op_lenN rfl (by kernel_rfl) hz_p0.2.2) ?_
     refine la 1 ((48, .bool _) :: _) rfl ?_
     refine nn ?_
     refine cm_cond (by kernel_rfl) rfl (fun h1821 => ?_) (fun h1821 => ?_)
     ·refine sk ?_
      refine cm_join (σ := (List ApiItem)) (ξ := (Option Addr) × Nat × Nat) (fun s1998 u1999 => [(0, .slice A_p0 n_p0 c_p0), (3, .pointer (some ⟨b5, 0, none⟩)), (7, .slice u1999.1 u1999.2.1 u1999.2.2), (8, .int .i64 s1819.2)]) (fun s1998 u1999 => [blkE b5 34 [.int .i64 p1.From, .int .i64 p1.To], ownE 66 5 encApiItem u1999.1 u1999.2.1 u1999.2.2 s1998]) ?_ ?_
      ·refine cm_block ?_
       refine sr ?_
       refine la 1 ((9, .int .i64 _) :: _) rfl ?_
       refine nn ?_
       refine cm_join (σ := Int) (ξ := Unit) (fun s2066 u2067 => [(0, .slice A_p0 n_p0 c_p0), (3, .pointer (some ⟨b5, 0, none⟩)), (7, .slice u1820.1 u1820.2.1 u1820.2.2), (8, .int .i64 s1819.2), (9, .int .i64 s2066)]) (fun s2066 u2067 => [blkE b5 34 [.int .i64 p1.From, .int .i64 p1.To], ownE 66 5 encApiItem u1820.1 u1820.2.1 u1820.2.2 s1819.1]) ?_ ?_
       ·refine sr ?_
        refine v_ 51 (fun _ _ => oF 0 0 rfl) ?_
        refine v_ 52 (fun _ c1 => oL (c1.cell 0 (u := .int .i64 _) rfl rfl)) ?_
        refine la 1 ((10, .int .i64 _) :: _) rfl ?_
        refine nn ?_
        refine cm_block ?_
        refine cm_loop (σ := Int × Int) (ξ := Unit) (fun s2112 u2113 => [(0, .slice A_p0 n_p0 c_p0), (3, .pointer (some ⟨b5, 0, none⟩)), (7, .slice u1820.1 u1820.2.1 u1820.2.2), (8, .int .i64 s1819.2), (9, .int .i64 s2112.1), (10, .int .i64 s2112.2)]) (fun s2112 u2113 => [blkE b5 34 [.int .i64 p1.From, .int .i64 p1.To], ownE 66 5 encApiItem u1820.1 u1820.2.1 u1820.2.2 s1819.1]) () ?_ ?_ ?_
        ·exact sq
        ·exact sh [0, 1]
        intro s2112 u2113
        refine cm_seq ?_
        refine sr ?_
        refine la 1 ((53, .int .i64 _) :: _) rfl ?_
        refine v_ 54 (fun _ _ => oF 1 1 rfl) ?_
        refine v_ 55 (fun _ c1 => oL (c1.cell 0 (u := .int .i64 _) rfl rfl)) ?_
        refine la 1 ((56, .bool _) :: _) rfl ?_
        refine nn ?_
        refine cm_cond (by kernel_rfl) rfl (fun h2114 => ?_) (fun h2114 => ?_)
        ·refine sk ?_
         refine cm_join (σ := Int) (ξ := Unit) (fun s2123 u2124 => [(0, .slice A_p0 n_p0 c_p0), (3, .pointer (some ⟨b5, 0, none⟩)), (7, .slice u1820.1 u1820.2.1 u1820.2.2), (8, .int .i64 s1819.2), (9, .int .i64 s2123), (10, .int .i64 s2112.2)]) (fun s2123 u2124 => [blkE b5 34 [.int .i64 p1.From, .int .i64 p1.To], ownE 66 5 encApiItem u1820.1 u1820.2.1 u1820.2.2 s1819.1]) ?_ ?_
         ·refine cm_block ?_
          refine cm_seq ?_
          refine cm_ck (fun h2125 => ?_)
          refine cm_ck (fun h2126 => ?_)
          refine cm_ck (fun h2127 => ?_)
          refine cm_ck (fun h2128 => ?_)
          refine cm_cutE [(82, .bool ((decide ((ix p0 s1819.2).From ≤ s2112.2)) && ((decide ((s1819.2 + (1 : Int)) = (List.length p0 : Int))) || (decide (s2112.2 < (ix p0 (s1819.2 + (1 : Int))).From)))))] ?_ ?_
          ·refine qa 3 ((61, .int .i64 _) :: (60, .slice _ _ _) :: (59, .int .i64 _) :: _) rfl ?_
           refine q_ 62 (fun _ c1 => oI 5 rfl rfl ((hr_p0.old c1).addr h2125.1 h2125.2) hz_p0.2.2 h2125) ?_
           refine q_ 63 (fun _ _ => op_field0 rfl (by kernel_rfl)) ?_
           refine q_ 64 (fun _ c1 => oL (v := .int .i64 ((ix p0 s1819.2).From)) ((hr_p0.old c1).cell0 h2125.1 h2125.2 rfl)) ?_
           refine qd 65 (fun _ _ => op_geq rfl rfl) (fun h2129 => ?_) (fun h2129 => ?_)
           ·refine qa 2 ((67, .int .i64 _) :: (66, .bool true) :: _) rfl ?_
            refine q_ 68 (fun _ _ => op_add rfl rfl (h2126 (by rw [decide_eq_true h2129] <;> rfl))) ?_
            refine qa 1 ((69, .slice _ _ _) :: _) rfl ?_
            refine q_ 70 (fun _ _ => op_lenN rfl (by kernel_rfl) hz_p0.2.2) ?_
            refine qd 71 (fun _ _ => op_eql rfl rfl) (fun h2130 => ?_) (fun h2130 => ?_)
            ·refine qa 11 ((82, .bool true) :: (81, .bool true) :: (80, undef) :: (79, undef) :: (78, undef) :: (77, undef) :: (76, undef) :: (75, undef) :: (74, undef) :: (73, undef) :: (72, .bool true) :: _) rfl ?_
             exact leaf_q (sub_out 24 _ rfl (by kernel_rfl) ⟨(congrArg Value.bool (by rw [decide_eq_true h2129, decide_eq_true h2130] <;> rfl)), trivial⟩)
            ·refine qa 4 ((75, .int .i64 _) :: (74, .slice _ _ _) :: (73, .int .i64 _) :: (72, .bool false) :: _) rfl ?_
             refine q_ 76 (fun _ _ => op_add rfl rfl (h2127 (by rw [decide_eq_true h2129, decide_eq_false h2130] <;> rfl))) ?_
             refine q_ 77 (fun _ c1 => oI 5 rfl rfl ((hr_p0.old c1).addr (h2128 (by rw [decide_eq_true h2129, decide_eq_false h2130] <;> rfl)).1 (h2128 (by rw [decide_eq_true h2129, decide_eq_false h2130] <;> rfl)).2) hz_p0.2.2 (h2128 (by rw [decide_eq_true h2129, decide_eq_false h2130] <;> rfl))) ?_
             refine q_ 78 (fun _ _ => op_field0 rfl (by kernel_rfl)) ?_
             refine q_ 79 (fun _ c1 => oL (v := .int .i64 ((ix p0 (s1819.2 + (1 : Int))).From)) ((hr_p0.old c1).cell0 (h2128 (by rw [decide_eq_true h2129, decide_eq_false h2130] <;> rfl)).1 (h2128 (by rw [decide_eq_true h2129, decide_eq_false h2130] <;> rfl)).2 rfl)) ?_
             refine qa 3 ((82, .bool _) :: (81, .bool _) :: (80, .bool _) :: _) rfl ?_
             exact leaf_q (sub_out 24 _ rfl (by kernel_rfl) ⟨(congrArg Value.bool (by rw [decide_eq_true h2129, decide_eq_false h2130] <;> rfl)), trivial⟩)
           ·refine qa 17 ((82, .bool false) :: (81, undef) :: (80, undef) :: (79, undef) :: (78, undef) :: (77, undef) :: (76, undef) :: (75, undef) :: (74, undef) :: (73, undef) :: (72, undef) :: (71, undef) :: (70, undef) :: (69, undef) :: (68, undef) :: (67, undef) :: (66, .bool false) :: _) rfl ?_
            exact leaf_q (sub_out 24 _ rfl (by kernel_rfl) ⟨(congrArg Value.bool (by rw [decide_eq_false h2129] <;> rfl)), trivial⟩)
          refine xm_next ?_
          refine cm_condB (by kernel_rfl) rfl (fun h2131 => ?_) (fun h2131 => ?_)
          ·refine cm_region ?_
           refine la 1 ((83, .int .i64 _) :: _) rfl ?_
           refine lm_ck (fun h2132 => ?_)
           refine v_ 84 (fun _ _ => op_add rfl rfl h2132) ?_
           refine la 1 ((9, .int .i64 _) :: _) rfl ?_
           refine lm_nil ?_
           refine xm_inN ?_
           exact xm_lnext () sq (sh [0, 1])
          ·refine cm_skip ?_
           refine xm_inN ?_
           exact xm_lnext () sq (sh [0, 1])
         intro s2123 u2124
         refine cm_region ?_
         refine la 1 ((57, .int .i64 _) :: _) rfl ?_
         refine lm_ck (fun h2133 => ?_)
         refine v_ 58 (fun _ _ => op_add rfl rfl h2133) ?_
         refine la 1 ((10, .int .i64 _) :: _) rfl ?_
         refine lm_nil ?_
         exact xm_lnext () sq (sh [0, 1])
        ·refine cm_exit ?_
         refine xm_thenE ?_
         refine xm_lexit ?_
         refine xm_here ?_
         exact xm_lnext () sq (sh [0, 1])
       intro s2066 u2067
       refine sr ?_
       refine la 2 ((86, .bool _) :: (85, .int .i64 _) :: _) rfl ?_
       refine nn ?_
       refine cm_cond (by kernel_rfl) rfl (fun h2134 => ?_) (fun h2134 => ?_)
       ·refine cm_ck (fun h2135 => ?_)
        refine cm_ck (fun h2136 => ?_)
        refine cm_ck (fun h2137 => ?_)
        refine cm_ck (fun h2144 => ?_)
        refine cm_of_then ?_
        refine cm_held (ξ := (Option Addr) × Nat × Nat) (fun u2161 => [(0, .slice A_p0 n_p0 c_p0), (3, .pointer (some ⟨b5, 0, none⟩)), (7, .slice u2161.1 u2161.2.1 u2161.2.2), (8, .int .i64 s1819.2)]) (fun u2161 => [blkE b5 34 [.int .i64 p1.From, .int .i64 p1.To], ownE 66 5 encApiItem u2161.1 u2161.2.1 u2161.2.2 (s1819.1 ++ ([(ApiItem.mk 1 s1819.2 s2066 ((ix p0 s1819.2).Base) (s2066 * ((ix p0 s1819.2).Base)))]))]) [blkE b5 34 [.int .i64 p1.From, .int .i64 p1.To]] 19 (by kernel_rfl) (by rfl) (hsub [0] (by kernel_rfl) (by rfl)) ?_ ?_
        ·intro w2163 c2164
         refine wh_take 0 87 rfl (by kernel_rfl) (by kernel_rfl) (fun w2 c2 => (op_move (v := .slice _ _ _) rfl)) (hsub [0] (by kernel_rfl) rfl _ c2164) ?_
         refine wh_take 1 88 rfl (by kernel_rfl) (by kernel_rfl) (fun w2 c2 => (op_move (v := .int .i64 _) rfl)) (hsub [0] (by kernel_rfl) rfl _ c2164) ?_
         refine wh_take 2 89 rfl (by kernel_rfl) (by kernel_rfl) (fun w2 c2 => (op_move (v := .int .i64 _) rfl)) (hsub [0] (by kernel_rfl) rfl _ c2164) ?_
         refine wh_take 3 90 rfl (by kernel_rfl) (by kernel_rfl) (fun w2 c2 => (op_move (v := .slice _ _ _) rfl)) (hsub [0] (by kernel_rfl) rfl _ c2164) ?_
         refine wh_take 4 91 rfl (by kernel_rfl) (by kernel_rfl) (fun w2 c2 => (op_move (v := .int .i64 _) rfl)) (hsub [0] (by kernel_rfl) rfl _ c2164) ?_
         refine wh_take 5 92 rfl (by kernel_rfl) (by kernel_rfl) (fun w2 c2 => (op_indexA 5 rfl rfl (by kernel_rfl) ((hr_p0.old c2).addr h2135.1 h2135.2) hz_p0.2.2 h2135.1 h2135.2)) (hsub [0] (by kernel_rfl) rfl _ c2164) ?_
         refine wh_take 6 93 rfl (by kernel_rfl) (by kernel_rfl) (fun w2 c2 => (op_field (m := 1) rfl (by kernel_rfl))) (hsub [0] (by kernel_rfl) rfl _ c2164) ?_
         refine wh_take 7 94 rfl (by kernel_rfl) (by kernel_rfl) (fun w2 c2 => (op_load (v := .int .i64 ((ix p0 s1819.2).Base)) rfl (by kernel_rfl) ((hr_p0.old c2).cell (j := 1) h2135.1 h2135.2 rfl))) (hsub [0] (by kernel_rfl) rfl _ c2164) ?_
         refine wh_take 8 95 rfl (by kernel_rfl) (by kernel_rfl) (fun w2 c2 => (op_move (v := .int .i64 _) rfl)) (hsub [0] (by kernel_rfl) rfl _ c2164) ?_
         refine wh_take 9 96 rfl (by kernel_rfl) (by kernel_rfl) (fun w2 c2 => (op_move (v := .slice _ _ _) rfl)) (hsub [0] (by kernel_rfl) rfl _ c2164) ?_
         refine wh_take 10 97 rfl (by kernel_rfl) (by kernel_rfl) (fun w2 c2 => (op_move (v := .int .i64 _) rfl)) (hsub [0] (by kernel_rfl) rfl _ c2164) ?_
         refine wh_take 11 98 rfl (by kernel_rfl) (by kernel_rfl) (fun w2 c2 => (op_indexA 5 rfl rfl (by kernel_rfl) ((hr_p0.old c2).addr h2136.1 h2136.2) hz_p0.2.2 h2136.1 h2136.2)) (hsub [0] (by kernel_rfl) rfl _ c2164) ?_
         refine wh_take 12 99 rfl (by kernel_rfl) (by kernel_rfl) (fun w2 c2 => (op_field (m := 1) rfl (by kernel_rfl))) (hsub [0] (by kernel_rfl) rfl _ c2164) ?_
         refine wh_take 13 100 rfl (by kernel_rfl) (by kernel_rfl) (fun w2 c2 => (op_load (v := .int .i64 ((ix p0 s1819.2).Base)) rfl (by kernel_rfl) ((hr_p0.old c2).cell (j := 1) h2136.1 h2136.2 rfl))) (hsub [0] (by kernel_rfl) rfl _ c2164) ?_
         refine wh_take 14 101 rfl (by kernel_rfl) (by kernel_rfl) (fun w2 c2 => (op_mul rfl rfl h2137)) (hsub [0] (by kernel_rfl) rfl _ c2164) ?_
         refine wh_take 15 102 rfl (by kernel_rfl) (by kernel_rfl) (fun w2 c2 => (op_build (z := [.int .i64 0, .int .i64 0, .int .i64 0, .int .i64 0, .int .i64 0]) (tab := [(0, 1), (1, 1), (2, 1), (3, 1), (4, 1)]) (cs := [.int .i64 _, .int .i64 _, .int .i64 _, .int .i64 _, .int .i64 _]) [(0, [.int .i64 _]), (1, [.int .i64 _]), (2, [.int .i64 _]), (3, [.int .i64 _]), (4, [.int .i64 _])] (by kernel_rfl) (by kernel_rfl) (fillOk_cons rfl rfl rfl (fillOk_cons rfl rfl rfl (fillOk_cons rfl rfl rfl (fillOk_cons rfl rfl rfl (fillOk_cons rfl rfl rfl fillOk_nil))))) rfl)) (hsub [0] (by kernel_rfl) rfl _ c2164) ?_
         refine wh_ready [16] (by kernel_rfl) rfl ⟨?_, trivial⟩
         refine ws_sliceN 103 (el := 66) (sz := 5) (bytes := 40) (enc := encApiItem) [(ApiItem.mk 1 s1819.2 s2066 ((ix p0 s1819.2).Base) (s2066 * ((ix p0 s1819.2).Base)))] rfl (by kernel_rfl) (by kernel_rfl) encApiItem_len rfl ⟨rfl, rfl, trivial⟩ (by kernel_rfl) (by kernel_rfl) c2164 ?_
         intro A2165 n2166 k2167 w2168 c2169
         refine ⟨(hsub [1] (by kernel_rfl) rfl _ c2169), ?_⟩
         refine wh_strong (Hs w0 [ownE 66 5 encApiItem A2165 n2166 k2167 ([(ApiItem.mk 1 s1819.2 s2066 ((ix p0 s1819.2).Base) (s2066 * ((ix p0 s1819.2).Base)))]), blkE b5 34 [.int .i64 p1.From, .int .i64 p1.To]]) (fun w2 c2 => hsub [1] (by kernel_rfl) rfl w2 c2) ?_
         refine wh_ready [17] (by kernel_rfl) rfl ⟨?_, trivial⟩
         refine ws_append 104 2 (el := 66) (sz := 5) (bytes := 40) (enc := encApiItem) (l2 := ([(ApiItem.mk 1 s1819.2 s2066 ((ix p0 s1819.2).Base) (s2066 * ((ix p0 s1819.2).Base)))])) rfl (by kernel_rfl) (by kernel_rfl) encApiItem_len encApiItem_one rfl rfl rfl (c2169.ownZ 0 rfl) (c2169.own 0 rfl encApiItem_len) h2144 (by kernel_rfl) c2169 ?_
         intro A2171 n2172 k2173 w2174 c2175
         refine ⟨(hsub [0, 1] (by kernel_rfl) rfl _ c2175), ?_⟩
         refine wh_take 18 7 rfl (by kernel_rfl) (by kernel_rfl) (fun w2 c2 => (op_assign (v := .slice _ _ _) rfl)) (hsub [0, 1] (by kernel_rfl) rfl _ c2175) ?_
         exact wh_done (A2171, n2172, k2173) (by kernel_rfl) sq (hsub [1, 2] (by kernel_rfl) rfl _ c2175)
        intro u2161
        refine xm_of_then ?_
        refine xm_inN ?_
        exact xm_lnext (u2161.1, u2161.2.1, u2161.2.2) sq (sh [0, 1])
       ·refine cm_skip ?_
        refine xm_inN ?_
        exact xm_lnext (u1820.1, u1820.2.1, u1820.2.2) sq (sh [0, 1])
      intro s1998 u1999
      refine cm_region ?_
      refine la 1 ((49, .int .i64 _) :: _) rfl ?_
      refine lm_ck (fun h2176 => ?_)
      refine v_ 50 (fun _ _ => op_add rfl rfl h2176) ?_
      refine la 1 ((8, .int .i64 _) :: _) rfl ?_
      refine lm_nil ?_
      exact xm_lnext (u1999.1, u1999.2.1, u1999.2.2) sq (sh [0, 1])
     ·refine cm_exit ?_
      refine xm_thenE ?_
      refine xm_lexit ?_
      refine xm_here ?_
      exact xm_lnext (u1820.1, u1820.2.1, u1820.2.2) sq (sh [1])
    intro s1095 u1096
    refine sr ?_
    refine la 3 ((5, .int .i64 _) :: (4, .slice _ _ _) :: (105, .slice _ _ _) :: _) rfl ?_
    refine nn ?_
    refine cm_ret ?_
    exact xm_retTT rfl (by kernel_rfl) (show _ = Value.slice _ _ _ from rfl) (by kernel_rfl) (show _ = Value.int .i64 _ from rfl) fun w1 c1 => ⟨(u1096.1, u1096.2.1, u1096.2.2), rfl, hsub [0] (by kernel_rfl) rfl w1 c1⟩
/-- recyclingref54.sum -/
def m_recyclingref54_sum (N : Nat) (p0 : (List ApiItem)) : Option (Int) :=
 (andThen
  (loopM (fun (s37 : Int × Int) =>
   (if s37.2 < (List.length p0 : Int) then
    ck ((0 : Int) ≤ s37.2 ∧ s37.2 < (List.length p0 : Int)) (
     ck (I64 (s37.1 + ((ix p0 s37.2).Amount))) (
      ck (I64 (s37.2 + (1 : Int))) (
       some (.next ((s37.1 + ((ix p0 s37.2).Amount)), (s37.2 + (1 : Int)))))))
   else
    some (.done (.next s37.1)))) N ((0 : Int), (0 : Int)))
 fun (s23 : Int) =>
  some (s23))
set_option maxRecDepth 20000 in
theorem m_recyclingref54_sum_ok (N : Nat) (w0 : World) (p0 : (List ApiItem)) (A_p0 : Option Addr) (n_p0 c_p0 : Nat) (hr_p0 : RdE w0 5 encApiItem A_p0 p0) (hz_p0 : SW A_p0 n_p0 c_p0 (List.length p0)) (r : Int) (hr : m_recyclingref54_sum N p0 = some r) :
  Ret Tryz.prog 47 [.slice A_p0 n_p0 c_p0] w0 (fun (r : Int) (_u : Unit) => .int .i64 r) (fun (_r : Int) (_u : Unit) => []) r := by
 refine calls_v (n := 19) r hr Tryz.func47 ?_
 unfold m_recyclingref54_sum
 refine sr ?_
 refine la 1 ((2, .int .i64 _) :: _) rfl ?_
 refine nn ?_
 refine sr ?_
 refine la 1 ((3, .int .i64 _) :: _) rfl ?_
 refine nn ?_
 refine cm_join (σ := Int) (ξ := Unit) (fun s23 u24 => [(3, .int .i64 s23)]) (fun s23 u24 => []) ?_ ?_
 ·refine sr ?_
  refine la 1 ((4, .int .i64 _) :: _) rfl ?_
  refine nn ?_
  refine cm_block ?_
  refine cm_loop (σ := Int × Int) (ξ := Unit) (fun s37 u38 => [(0, .slice A_p0 n_p0 c_p0), (3, .int .i64 s37.1), (4, .int .i64 s37.2)]) (fun s37 u38 => []) () ?_ ?_ ?_
  ·exact sq
  ·exact sh []
  intro s37 u38
  refine cm_seq ?_
  refine sr ?_
  refine la 2 ((6, .slice _ _ _) :: (5, .int .i64 _) :: _) rfl ?_
  refine v_ 7 (fun _ _ => op_lenN rfl (by kernel_rfl) hz_p0.2.2) ?_
  refine la 1 ((8, .bool _) :: _) rfl ?_
  refine nn ?_
  refine cm_cond (by kernel_rfl) rfl (fun h39 => ?_) (fun h39 => ?_)
  ·refine sk ?_
   refine cm_seq ?_
   refine cm_block ?_
   refine cm_region ?_
   refine la 3 ((13, .int .i64 _) :: (12, .slice _ _ _) :: (11, .int .i64 _) :: _) rfl ?_
   refine lm_ck (fun h40 => ?_)
   refine v_ 14 (fun _ c1 => oI 5 rfl rfl ((hr_p0.old c1).addr h40.1 h40.2) hz_p0.2.2 h40) ?_
   refine v_ 15 (fun _ _ => op_field (m := 4) rfl (by kernel_rfl)) ?_
   refine v_ 16 (fun _ c1 => oL (v := .int .i64 ((ix p0 s37.2).Amount)) ((hr_p0.old c1).cell (j := 4) h40.1 h40.2 rfl)) ?_
   refine lm_ck (fun h41 => ?_)
   refine v_ 17 (fun _ _ => op_add rfl rfl h41) ?_
   refine la 1 ((3, .int .i64 _) :: _) rfl ?_
   refine lm_nil ?_
   refine xm_inN ?_
   refine xm_next ?_
   refine cm_region ?_
   refine la 1 ((9, .int .i64 _) :: _) rfl ?_
   refine lm_ck (fun h42 => ?_)
   refine v_ 10 (fun _ _ => op_add rfl rfl h42) ?_
   refine la 1 ((4, .int .i64 _) :: _) rfl ?_
   refine lm_nil ?_
   exact xm_lnext () sq (sh [])
  ·refine cm_exit ?_
   refine xm_thenE ?_
   refine xm_lexit ?_
   refine xm_here ?_
   exact xm_lnext () sq (sh [])
 intro s23 u24
 refine sr ?_
 refine la 2 ((2, .int .i64 _) :: (18, .int .i64 _) :: _) rfl ?_
 refine nn ?_
 refine cm_ret ?_
 exact xm_retT rfl (by kernel_rfl) (show _ = Value.int .i64 _ from rfl) fun w1 c1 => ⟨(), rfl, hsub [] (by kernel_rfl) rfl w1 c1⟩
/-- recyclingref54.Make -/
def m_recyclingref54_Make (N : Nat) (p0 : ApiAccount) (p1 : Int) (p2 : Int) (p3 : ApiWindow) : Option (ApiBill × Int) :=
 Option.bind (m_recyclingref54_Check N p0) fun r8 => (if r8 ≠ 0 then
  some (((ApiBill.mk 0 0 (ApiWindow.mk 0 0) ([] : List ApiItem) 0), r8))
 else
  (if ((decide (p1 < 1)) || (decide (1000000 < p1))) = true then
   some (((ApiBill.mk 0 0 (ApiWindow.mk 0 0) ([] : List ApiItem) 0), (1 : Int)))
  else
   (if ((decide (p2 < 0)) || (decide ((List.length p0.Households : Int) ≤ p2))) = true then
    some (((ApiBill.mk 0 0 (ApiWindow.mk 0 0) ([] : List ApiItem) 0), (7 : Int)))
   else
    (if (((decide (p3.From < 0)) || (decide (p3.To < p3.From))) || (decide (36525 < p3.To))) = true then
     some (((ApiBill.mk 0 0 (ApiWindow.mk 0 0) ([] : List ApiItem) 0), (1 : Int)))
    else
     Option.bind (m_recyclingref53_Base N p0.Tariffs p3) fun r18 => (if r18.2 ≠ 0 then
      some (((ApiBill.mk 0 0 (ApiWindow.mk 0 0) ([] : List ApiItem) 0), r18.2))
     else
      ck (I64 (p3.From * (86400 : Int))) (
       ck (I64 (p3.To * (86400 : Int))) (
        Option.bind (m_recyclingref18_Of N p0.Emptyings p0.Assigns p2 (ApiWindow.mk (p3.From * (86400 : Int)) (p3.To * (86400 : Int))) p0.Gap) fun r23 => (andThen
         (loopM (fun (s252 : (List ApiItem) × Int) =>
          (if s252.2 < (List.length r23.1 : Int) then
           ck ((0 : Int) ≤ s252.2 ∧ s252.2 < (List.length r23.1 : Int)) (
            ck ((0 : Int) ≤ (ix r23.1 s252.2) ∧ (ix r23.1 s252.2) < (List.length p0.Emptyings : Int)) (
             ck (I64 ((ix p0.Emptyings (ix r23.1 s252.2)).At)) (
              Option.bind (m_recyclingref53_At N p0.Tariffs (Int.tdiv ((ix p0.Emptyings (ix r23.1 s252.2)).At) 86400)) fun r277 => ck ((0 : Int) ≤ r277.1 ∧ r277.1 < (List.length p0.Tariffs : Int)) (
               Option.bind (m_recyclingref53_Items N (ix p0.Tariffs r277.1) (ix p0.Emptyings (ix r23.1 s252.2))) fun r280 => ck ((List.length s252.1 + List.length r280.1) * 40 ≤ 140737488355328) (
                ck (I64 (s252.2 + (1 : Int))) (
                 some (.next ((s252.1 ++ r280.1), (s252.2 + (1 : Int))))))))))
          else
           some (.done (.next s252.1)))) N (r18.1, (0 : Int)))
        fun (s160 : (List ApiItem)) =>
         (if 512 < (List.length s160 : Int) then
          some (((ApiBill.mk 0 0 (ApiWindow.mk 0 0) ([] : List ApiItem) 0), (8 : Int)))
         else
          Option.bind (m_recyclingref54_sum N s160) fun r298 => (if 1000000000000 < r298 then
           some (((ApiBill.mk 0 0 (ApiWindow.mk 0 0) ([] : List ApiItem) 0), (2 : Int)))
          else
           Option.bind (m_recyclingref54_sum N s160) fun r301 => some (((ApiBill.mk p1 p2 p3 s160 r301), (0 : Int)))))))))))))
set_option maxHeartbeats 2000000 in
set_option maxRecDepth 20000 in
theorem m_recyclingref54_Make_ok (N : Nat) (w0 : World) (p0 : ApiAccount) (p1 : Int) (p2 : Int) (p3 : ApiWindow) (A_p01 : Option Addr) (n_p01 c_p01 : Nat) (A_p02 : Option Addr) (n_p02 c_p02 : Nat) (A_p03 : Option Addr) (n_p03 c_p03 : Nat) (A_p04 : Option Addr) (n_p04 c_p04 : Nat) (A_p05 : Option Addr) (n_p05 c_p05 : Nat) (hr_p01 : RdE w0 2 encApiHousehold A_p01 p0.Households) (hz_p01 : SW A_p01 n_p01 c_p01 (List.length p0.Households)) (hr_p02 : RdE w0 5 encApiContainer A_p02 p0.Containers) (hz_p02 : SW A_p02 n_p02 c_p02 (List.length p0.Containers)) (hr_p03 : RdE w0 4 encApiAssign A_p03 p0.Assigns) (hz_p03 : SW A_p03 n_p03 c_p03 (List.length p0.Assigns)) (hr_p04 : RdE w0 7 encApiEmptying A_p04 p0.Emptyings) (hz_p04 : SW A_p04 n_p04 c_p04 (List.length p0.Emptyings)) (hr_p05 : RdE w0 5 encApiTariff A_p05 p0.Tariffs) (hz_p05 : SW A_p05 n_p05 c_p05 (List.length p0.Tariffs)) (r : ApiBill × Int) (hr : m_recyclingref54_Make N p0 p1 p2 p3 = some r) :
  Ret Tryz.prog 17 [.agg #[.slice A_p01 n_p01 c_p01, .slice A_p02 n_p02 c_p02, .slice A_p03 n_p03 c_p03, .slice A_p04 n_p04 c_p04, .slice A_p05 n_p05 c_p05, .int .i64 p0.Gap], .int .i64 p1, .int .i64 p2, .agg #[.int .i64 p3.From, .int .i64 p3.To]] w0 (fun (r : ApiBill × Int) (u : (Option Addr) × Nat × Nat) => .tuple #[.agg #[.int .i64 r.1.ID, .int .i64 r.1.Household, .int .i64 r.1.When.From, .int .i64 r.1.When.To, .slice u.1 u.2.1 u.2.2, .int .i64 r.1.Total], .int .i64 r.2]) (fun (r : ApiBill × Int) (u : (Option Addr) × Nat × Nat) => [ownE 66 5 encApiItem u.1 u.2.1 u.2.2 r.1.Items]) r := by
 refine calls_v (n := 140) r hr Tryz.func17 ?_
 unfold m_recyclingref54_Make
 refine sr ?_
 refine lm_box 4 [.slice _ _ _, .slice _ _ _, .slice _ _ _, .slice _ _ _, .slice _ _ _, .int .i64 _] (by kernel_rfl) rfl ?_
 intro b5
 refine lm_box 7 [.int .i64 _, .int .i64 _] (by kernel_rfl) rfl ?_
 intro b6
 refine lm_alloc 8 [.int .i64 0, .int .i64 0, .int .i64 0, .int .i64 0, .slice none 0 0, .int .i64 0] (v := .agg #[.int .i64 0, .int .i64 0, .int .i64 0, .int .i64 0, .slice none 0 0, .int .i64 0]) (by kernel_rfl) (by kernel_rfl) rfl ?_
 intro b7
 refine la 1 ((9, .int .i64 _) :: _) rfl ?_
 refine nn ?_
 refine cm_seq ?_
 refine sr ?_
 refine v_ 21 (fun _ c1 => oR [.slice _ _ _, .slice _ _ _, .slice _ _ _, .slice _ _ _, .slice _ _ _, .int .i64 _] (c1.cells 2 rfl rfl)) ?_
 refine lm_call 22 (V := (fun (r : Int) (_u : Unit) => .int .i64 r)) (HR := (fun (_r : Int) (_u : Unit) => [])) (by kernel_rfl) (fun w1 => op_call (by kernel_rfl)) (fun r1 hr1 w1 c1 => m_recyclingref54_Check_ok N w1 p0 A_p01 n_p01 c_p01 A_p02 n_p02 c_p02 A_p03 n_p03 c_p03 A_p04 n_p04 c_p04 A_p05 n_p05 c_p05 (hr_p01.old c1) hz_p01 (hr_p02.old c1) hz_p02 (hr_p03.old c1) hz_p03 (hr_p04.old c1) hz_p04 (hr_p05.old c1) hz_p05 r1 hr1) ?_
 intro r8 u9
 refine la 1 ((10, .int .i64 _) :: _) rfl ?_
 refine nn ?_
 refine sr ?_
 refine la 2 ((24, .bool _) :: (23, .int .i64 _) :: _) rfl ?_
 refine nn ?_
 refine cm_cond (by kernel_rfl) rfl (fun h10 => ?_) (fun h10 => ?_)
 ·refine sr ?_
  refine v_ 25 (fun _ _ => op_build (z := [.int .i64 0, .int .i64 0, .int .i64 0, .int .i64 0, .slice none 0 0, .int .i64 0]) (tab := [(0, 1), (1, 1), (2, 2), (4, 1), (5, 1)]) (cs := [.int .i64 _, .int .i64 _, .int .i64 _, .int .i64 _, .slice _ _ _, .int .i64 _]) [] (by kernel_rfl) (by kernel_rfl) fillOk_nil rfl) ?_
  refine la 1 ((26, .int .i64 _) :: _) rfl ?_
  refine lm_storeA 0 [.int .i64 _, .int .i64 _, .int .i64 _, .int .i64 _, .slice _ _ _, .int .i64 _] [_, _, _, _, _, _] (H' := [blkE _ _ [_, _, _, _, _, _], _, _]) (by kernel_rfl) rfl rfl (by kernel_rfl) rfl rfl (by kernel_rfl) rfl rfl ?_
  refine la 1 ((9, .int .i64 _) :: _) rfl ?_
  refine nn ?_
  refine cm_ret ?_
  refine xm_thenR ?_
  refine xm_nilrow 66 5 encApiItem ?_
  exact xm_retCT rfl (by kernel_rfl) (show _ = Value.pointer (some ⟨_, 0, none⟩) from rfl) (by kernel_rfl) (fun w1 c1 => c1.cells 1 (ds := [.int .i64 _, .int .i64 _, .int .i64 _, .int .i64 _, .slice _ _ _, .int .i64 _]) rfl rfl) (by kernel_rfl) (show _ = Value.int .i64 _ from rfl) fun w1 c1 => ⟨(none, 0, 0), rfl, hsub [0] (by kernel_rfl) rfl w1 c1⟩
 ·refine sk ?_
  refine cm_seq ?_
  refine cm_seq ?_
  refine cm_cutE [(32, .bool ((decide (p1 < 1)) || (decide (1000000 < p1))))] ?_ ?_
  ·refine qa 1 ((27, .int .i64 _) :: _) rfl ?_
   refine qd 28 (fun _ _ => op_lss rfl rfl) (fun h11 => ?_) (fun h11 => ?_)
   ·refine qa 4 ((32, .bool true) :: (31, undef) :: (30, undef) :: (29, .bool true) :: _) rfl ?_
    exact leaf_q (sub_out 6 _ rfl (by kernel_rfl) ⟨(congrArg Value.bool (by rw [decide_eq_true h11] <;> rfl)), trivial⟩)
   ·refine qa 4 ((32, .bool _) :: (31, .bool _) :: (30, .int .i64 _) :: (29, .bool false) :: _) rfl ?_
    exact leaf_q (sub_out 6 _ rfl (by kernel_rfl) ⟨(congrArg Value.bool (by rw [decide_eq_false h11] <;> rfl)), trivial⟩)
  refine xm_next ?_
  refine cm_condB (by kernel_rfl) rfl (fun h12 => ?_) (fun h12 => ?_)
  ·refine sr ?_
   refine v_ 33 (fun _ _ => op_build (z := [.int .i64 0, .int .i64 0, .int .i64 0, .int .i64 0, .slice none 0 0, .int .i64 0]) (tab := [(0, 1), (1, 1), (2, 2), (4, 1), (5, 1)]) (cs := [.int .i64 _, .int .i64 _, .int .i64 _, .int .i64 _, .slice _ _ _, .int .i64 _]) [] (by kernel_rfl) (by kernel_rfl) fillOk_nil rfl) ?_
   refine lm_storeA 0 [.int .i64 _, .int .i64 _, .int .i64 _, .int .i64 _, .slice _ _ _, .int .i64 _] [_, _, _, _, _, _] (H' := [blkE _ _ [_, _, _, _, _, _], _, _]) (by kernel_rfl) rfl rfl (by kernel_rfl) rfl rfl (by kernel_rfl) rfl rfl ?_
   refine la 1 ((9, .int .i64 _) :: _) rfl ?_
   refine nn ?_
   refine cm_ret ?_
   refine xm_thenR ?_
   refine xm_nilrow 66 5 encApiItem ?_
   exact xm_retCT rfl (by kernel_rfl) (show _ = Value.pointer (some ⟨_, 0, none⟩) from rfl) (by kernel_rfl) (fun w1 c1 => c1.cells 1 (ds := [.int .i64 _, .int .i64 _, .int .i64 _, .int .i64 _, .slice _ _ _, .int .i64 _]) rfl rfl) (by kernel_rfl) (show _ = Value.int .i64 _ from rfl) fun w1 c1 => ⟨(none, 0, 0), rfl, hsub [0] (by kernel_rfl) rfl w1 c1⟩
  ·refine sk ?_
   refine cm_seq ?_
   refine cm_seq ?_
   refine cm_cutE [(42, .bool ((decide (p2 < 0)) || (decide ((List.length p0.Households : Int) ≤ p2))))] ?_ ?_
   ·refine qa 1 ((34, .int .i64 _) :: _) rfl ?_
    refine qd 35 (fun _ _ => op_lss rfl rfl) (fun h13 => ?_) (fun h13 => ?_)
    ·refine qa 7 ((42, .bool true) :: (41, undef) :: (40, undef) :: (39, undef) :: (38, undef) :: (37, undef) :: (36, .bool true) :: _) rfl ?_
     exact leaf_q (sub_out 9 _ rfl (by kernel_rfl) ⟨(congrArg Value.bool (by rw [decide_eq_true h13] <;> rfl)), trivial⟩)
    ·refine qa 2 ((37, .int .i64 _) :: (36, .bool false) :: _) rfl ?_
     refine q_ 38 (fun _ _ => oF 0 0 rfl) ?_
     refine q_ 39 (fun _ c1 => oL (c1.cell 2 (u := .slice _ _ _) rfl rfl)) ?_
     refine q_ 40 (fun _ _ => op_lenN rfl (by kernel_rfl) hz_p01.2.2) ?_
     refine qa 2 ((42, .bool _) :: (41, .bool _) :: _) rfl ?_
     exact leaf_q (sub_out 9 _ rfl (by kernel_rfl) ⟨(congrArg Value.bool (by rw [decide_eq_false h13] <;> rfl)), trivial⟩)
   refine xm_next ?_
   refine cm_condB (by kernel_rfl) rfl (fun h14 => ?_) (fun h14 => ?_)
   ·refine sr ?_
    refine v_ 43 (fun _ _ => op_build (z := [.int .i64 0, .int .i64 0, .int .i64 0, .int .i64 0, .slice none 0 0, .int .i64 0]) (tab := [(0, 1), (1, 1), (2, 2), (4, 1), (5, 1)]) (cs := [.int .i64 _, .int .i64 _, .int .i64 _, .int .i64 _, .slice _ _ _, .int .i64 _]) [] (by kernel_rfl) (by kernel_rfl) fillOk_nil rfl) ?_
    refine lm_storeA 0 [.int .i64 _, .int .i64 _, .int .i64 _, .int .i64 _, .slice _ _ _, .int .i64 _] [_, _, _, _, _, _] (H' := [blkE _ _ [_, _, _, _, _, _], _, _]) (by kernel_rfl) rfl rfl (by kernel_rfl) rfl rfl (by kernel_rfl) rfl rfl ?_
    refine la 1 ((9, .int .i64 _) :: _) rfl ?_
    refine nn ?_
    refine cm_ret ?_
    refine xm_thenR ?_
    refine xm_nilrow 66 5 encApiItem ?_
    exact xm_retCT rfl (by kernel_rfl) (show _ = Value.pointer (some ⟨_, 0, none⟩) from rfl) (by kernel_rfl) (fun w1 c1 => c1.cells 1 (ds := [.int .i64 _, .int .i64 _, .int .i64 _, .int .i64 _, .slice _ _ _, .int .i64 _]) rfl rfl) (by kernel_rfl) (show _ = Value.int .i64 _ from rfl) fun w1 c1 => ⟨(none, 0, 0), rfl, hsub [0] (by kernel_rfl) rfl w1 c1⟩
   ·refine sk ?_
    refine cm_seq ?_
    refine cm_seq ?_
    refine cm_cutE [(58, .bool (((decide (p3.From < 0)) || (decide (p3.To < p3.From))) || (decide (36525 < p3.To))))] ?_ ?_
    ·refine q_ 44 (fun _ _ => oF 0 0 rfl) ?_
     refine q_ 45 (fun _ c1 => oL (c1.cell 1 (u := .int .i64 _) rfl rfl)) ?_
     refine qd 46 (fun _ _ => op_lss rfl rfl) (fun h15 => ?_) (fun h15 => ?_)
     ·refine qa 12 ((58, .bool true) :: (57, undef) :: (56, undef) :: (55, undef) :: (54, .bool true) :: (53, .bool true) :: (52, undef) :: (51, undef) :: (50, undef) :: (49, undef) :: (48, undef) :: (47, .bool true) :: _) rfl ?_
      exact leaf_q (sub_out 15 _ rfl (by kernel_rfl) ⟨(congrArg Value.bool (by rw [decide_eq_true h15] <;> rfl)), trivial⟩)
     ·refine qa 1 ((47, .bool false) :: _) rfl ?_
      refine q_ 48 (fun _ _ => oF 0 0 rfl) ?_
      refine q_ 49 (fun _ c1 => oL (c1.cell 1 (u := .int .i64 _) rfl rfl)) ?_
      refine q_ 50 (fun _ _ => oF 1 1 rfl) ?_
      refine q_ 51 (fun _ c1 => oL (c1.cell 1 (u := .int .i64 _) rfl rfl)) ?_
      refine qd 52 (fun _ _ => op_gtr rfl rfl) (fun h16 => ?_) (fun h16 => ?_)
      ·refine qa 6 ((58, .bool true) :: (57, undef) :: (56, undef) :: (55, undef) :: (54, .bool true) :: (53, .bool true) :: _) rfl ?_
       exact leaf_q (sub_out 15 _ rfl (by kernel_rfl) ⟨(congrArg Value.bool (by rw [decide_eq_false h15, decide_eq_true h16] <;> rfl)), trivial⟩)
      ·refine qa 2 ((54, .bool false) :: (53, .bool false) :: _) rfl ?_
       refine q_ 55 (fun _ _ => oF 1 1 rfl) ?_
       refine q_ 56 (fun _ c1 => oL (c1.cell 1 (u := .int .i64 _) rfl rfl)) ?_
       refine qa 2 ((58, .bool _) :: (57, .bool _) :: _) rfl ?_
       exact leaf_q (sub_out 15 _ rfl (by kernel_rfl) ⟨(congrArg Value.bool (by rw [decide_eq_false h15, decide_eq_false h16] <;> rfl)), trivial⟩)
    refine xm_next ?_
    refine cm_condB (by kernel_rfl) rfl (fun h17 => ?_) (fun h17 => ?_)
    ·refine sr ?_
     refine v_ 59 (fun _ _ => op_build (z := [.int .i64 0, .int .i64 0, .int .i64 0, .int .i64 0, .slice none 0 0, .int .i64 0]) (tab := [(0, 1), (1, 1), (2, 2), (4, 1), (5, 1)]) (cs := [.int .i64 _, .int .i64 _, .int .i64 _, .int .i64 _, .slice _ _ _, .int .i64 _]) [] (by kernel_rfl) (by kernel_rfl) fillOk_nil rfl) ?_
     refine lm_storeA 0 [.int .i64 _, .int .i64 _, .int .i64 _, .int .i64 _, .slice _ _ _, .int .i64 _] [_, _, _, _, _, _] (H' := [blkE _ _ [_, _, _, _, _, _], _, _]) (by kernel_rfl) rfl rfl (by kernel_rfl) rfl rfl (by kernel_rfl) rfl rfl ?_
     refine la 1 ((9, .int .i64 _) :: _) rfl ?_
     refine nn ?_
     refine cm_ret ?_
     refine xm_thenR ?_
     refine xm_nilrow 66 5 encApiItem ?_
     exact xm_retCT rfl (by kernel_rfl) (show _ = Value.pointer (some ⟨_, 0, none⟩) from rfl) (by kernel_rfl) (fun w1 c1 => c1.cells 1 (ds := [.int .i64 _, .int .i64 _, .int .i64 _, .int .i64 _, .slice _ _ _, .int .i64 _]) rfl rfl) (by kernel_rfl) (show _ = Value.int .i64 _ from rfl) fun w1 c1 => ⟨(none, 0, 0), rfl, hsub [0] (by kernel_rfl) rfl w1 c1⟩
    ·refine sk ?_
     refine sr ?_
     refine v_ 61 (fun _ _ => oF 4 4 rfl) ?_
     refine v_ 62 (fun _ c1 => oL (c1.cell 2 (u := .slice _ _ _) rfl rfl)) ?_
     refine v_ 63 (fun _ c1 => oR [.int .i64 _, .int .i64 _] (c1.cells 1 rfl rfl)) ?_
     refine lm_call 64 (V := (fun (r : (List ApiItem) × Int) (u : (Option Addr) × Nat × Nat) => .tuple #[.slice u.1 u.2.1 u.2.2, .int .i64 r.2])) (HR := (fun (r : (List ApiItem) × Int) (u : (Option Addr) × Nat × Nat) => [ownE 66 5 encApiItem u.1 u.2.1 u.2.2 r.1])) (by kernel_rfl) (fun w1 => op_call (by kernel_rfl)) (fun r1 hr1 w1 c1 => m_recyclingref53_Base_ok N w1 p0.Tariffs p3 A_p05 n_p05 c_p05 (hr_p05.old c1) hz_p05 r1 hr1) ?_
     intro r18 u19
     refine la 5 ((12, .int .i64 _) :: (11, .slice _ _ _) :: (66, .int .i64 _) :: (65, .slice _ _ _) :: (60, .tuple _) :: _) rfl ?_
     refine nn ?_
     refine cm_seq ?_
     refine sr ?_
     refine la 2 ((68, .bool _) :: (67, .int .i64 _) :: _) rfl ?_
     refine nn ?_
     refine cm_cond (by kernel_rfl) rfl (fun h20 => ?_) (fun h20 => ?_)
     ·refine sr ?_
      refine v_ 69 (fun _ _ => op_build (z := [.int .i64 0, .int .i64 0, .int .i64 0, .int .i64 0, .slice none 0 0, .int .i64 0]) (tab := [(0, 1), (1, 1), (2, 2), (4, 1), (5, 1)]) (cs := [.int .i64 _, .int .i64 _, .int .i64 _, .int .i64 _, .slice _ _ _, .int .i64 _]) [] (by kernel_rfl) (by kernel_rfl) fillOk_nil rfl) ?_
      refine la 1 ((70, .int .i64 _) :: _) rfl ?_
      refine lm_storeA 1 [.int .i64 _, .int .i64 _, .int .i64 _, .int .i64 _, .slice _ _ _, .int .i64 _] [_, _, _, _, _, _] (H' := [_, blkE _ _ [_, _, _, _, _, _], _, _]) (by kernel_rfl) rfl rfl (by kernel_rfl) rfl rfl (by kernel_rfl) rfl rfl ?_
      refine la 1 ((9, .int .i64 _) :: _) rfl ?_
      refine nn ?_
      refine cm_ret ?_
      refine xm_thenR ?_
      refine xm_nilrow 66 5 encApiItem ?_
      exact xm_retCT rfl (by kernel_rfl) (show _ = Value.pointer (some ⟨_, 0, none⟩) from rfl) (by kernel_rfl) (fun w1 c1 => c1.cells 2 (ds := [.int .i64 _, .int .i64 _, .int .i64 _, .int .i64 _, .slice _ _ _, .int .i64 _]) rfl rfl) (by kernel_rfl) (show _ = Value.int .i64 _ from rfl) fun w1 c1 => ⟨(none, 0, 0), rfl, hsub [0] (by kernel_rfl) rfl w1 c1⟩
     ·refine sk ?_
      refine sr ?_
      refine v_ 72 (fun _ _ => oF 3 3 rfl) ?_
      refine v_ 73 (fun _ c1 => oL (c1.cell 3 (u := .slice _ _ _) rfl rfl)) ?_
      refine v_ 74 (fun _ _ => oF 2 2 rfl) ?_
      refine v_ 75 (fun _ c1 => oL (c1.cell 3 (u := .slice _ _ _) rfl rfl)) ?_
      refine la 1 ((76, .int .i64 _) :: _) rfl ?_
      refine v_ 77 (fun _ _ => oF 0 0 rfl) ?_
      refine v_ 78 (fun _ c1 => oL (c1.cell 2 (u := .int .i64 _) rfl rfl)) ?_
      refine lm_ck (fun h21 => ?_)
      refine v_ 79 (fun _ _ => op_mul rfl rfl h21) ?_
      refine v_ 80 (fun _ _ => oF 1 1 rfl) ?_
      refine v_ 81 (fun _ c1 => oL (c1.cell 2 (u := .int .i64 _) rfl rfl)) ?_
      refine lm_ck (fun h22 => ?_)
      refine v_ 82 (fun _ _ => op_mul rfl rfl h22) ?_
      refine v_ 83 (fun _ _ => op_build (z := [.int .i64 0, .int .i64 0]) (tab := [(0, 1), (1, 1)]) (cs := [.int .i64 _, .int .i64 _]) [(0, [.int .i64 _]), (1, [.int .i64 _])] (by kernel_rfl) (by kernel_rfl) (fillOk_cons rfl rfl rfl (fillOk_cons rfl rfl rfl fillOk_nil)) rfl) ?_
      refine v_ 84 (fun _ _ => oF 5 5 rfl) ?_
      refine v_ 85 (fun _ c1 => oL (c1.cell 3 (u := .int .i64 _) rfl rfl)) ?_
      refine lm_call 86 (V := (fun (r : (List Int) × Int) (u : (Option Addr) × Nat × Nat) => .tuple #[.slice u.1 u.2.1 u.2.2, .int .i64 r.2])) (HR := (fun (r : (List Int) × Int) (u : (Option Addr) × Nat × Nat) => [ownE 3 1 encI u.1 u.2.1 u.2.2 r.1])) (by kernel_rfl) (fun w1 => op_call (by kernel_rfl)) (fun r1 hr1 w1 c1 => m_recyclingref18_Of_ok N w1 p0.Emptyings p0.Assigns p2 (ApiWindow.mk (p3.From * (86400 : Int)) (p3.To * (86400 : Int))) p0.Gap A_p04 n_p04 c_p04 A_p03 n_p03 c_p03 (hr_p04.old c1) hz_p04 (hr_p03.old c1) hz_p03 r1 hr1) ?_
      intro r23 u24
      refine la 5 ((14, .int .i64 _) :: (13, .slice _ _ _) :: (88, .int .i64 _) :: (87, .slice _ _ _) :: (71, .tuple _) :: _) rfl ?_
      refine nn ?_
      refine cm_join (σ := (List ApiItem)) (ξ := (Option Addr) × Nat × Nat) (fun s160 u161 => [(1, .int .i64 p1), (2, .int .i64 p2), (7, .pointer (some ⟨b6, 0, none⟩)), (8, .pointer (some ⟨b7, 0, none⟩)), (11, .slice u161.1 u161.2.1 u161.2.2)]) (fun s160 u161 => [blkE b6 34 [.int .i64 p3.From, .int .i64 p3.To], blkE b7 39 [.int .i64 0, .int .i64 0, .int .i64 0, .int .i64 0, .slice none 0 0, .int .i64 0], ownE 66 5 encApiItem u161.1 u161.2.1 u161.2.2 s160]) ?_ ?_
      ·refine sr ?_
       refine la 1 ((15, .int .i64 _) :: _) rfl ?_
       refine nn ?_
       refine cm_block ?_
       refine cm_loop (σ := (List ApiItem) × Int) (ξ := (Option Addr) × Nat × Nat) (fun s252 u253 => [(1, .int .i64 p1), (2, .int .i64 p2), (4, .pointer (some ⟨b5, 0, none⟩)), (7, .pointer (some ⟨b6, 0, none⟩)), (8, .pointer (some ⟨b7, 0, none⟩)), (11, .slice u253.1 u253.2.1 u253.2.2), (13, .slice u24.1 u24.2.1 u24.2.2), (15, .int .i64 s252.2)]) (fun s252 u253 => [blkE b5 28 [.slice A_p01 n_p01 c_p01, .slice A_p02 n_p02 c_p02, .slice A_p03 n_p03 c_p03, .slice A_p04 n_p04 c_p04, .slice A_p05 n_p05 c_p05, .int .i64 p0.Gap], blkE b6 34 [.int .i64 p3.From, .int .i64 p3.To], blkE b7 39 [.int .i64 0, .int .i64 0, .int .i64 0, .int .i64 0, .slice none 0 0, .int .i64 0], ownE 66 5 encApiItem u253.1 u253.2.1 u253.2.2 s252.1, ownE 3 1 encI u24.1 u24.2.1 u24.2.2 r23.1]) (u19.1, u19.2.1, u19.2.2) ?_ ?_ ?_
       ·exact sq
       ·exact sh [4, 3, 2, 1, 0]
       intro s252 u253
       refine cm_seq ?_
       refine sr ?_
       refine la 2 ((90, .slice _ _ _) :: (89, .int .i64 _) :: _) rfl ?_
       refine v_ 91 (fun _ c1 => op_lenN rfl (by kernel_rfl) (c1.ownZ 4 rfl).2.2) ?_
       refine la 1 ((92, .bool _) :: _) rfl ?_
       refine nn ?_
       refine cm_cond (by kernel_rfl) rfl (fun h254 => ?_) (fun h254 => ?_)
       ·refine sk ?_
        refine cm_seq ?_
        refine cm_block ?_
        refine cm_seq ?_
        refine cm_ck (fun h255 => ?_)
        refine cm_ck (fun h256 => ?_)
        refine cm_held (ξ := Nat) (fun u267 => [(1, .int .i64 p1), (2, .int .i64 p2), (4, .pointer (some ⟨b5, 0, none⟩)), (7, .pointer (some ⟨b6, 0, none⟩)), (8, .pointer (some ⟨b7, 0, none⟩)), (11, .slice u253.1 u253.2.1 u253.2.2), (13, .slice u24.1 u24.2.1 u24.2.2), (15, .int .i64 s252.2), (16, .pointer (some ⟨u267, 0, none⟩))]) (fun u267 => [blkE b5 28 [.slice A_p01 n_p01 c_p01, .slice A_p02 n_p02 c_p02, .slice A_p03 n_p03 c_p03, .slice A_p04 n_p04 c_p04, .slice A_p05 n_p05 c_p05, .int .i64 p0.Gap], blkE b6 34 [.int .i64 p3.From, .int .i64 p3.To], blkE b7 39 [.int .i64 0, .int .i64 0, .int .i64 0, .int .i64 0, .slice none 0 0, .int .i64 0], ownE 66 5 encApiItem u253.1 u253.2.1 u253.2.2 s252.1, ownE 3 1 encI u24.1 u24.2.1 u24.2.2 r23.1, blkE u267 59 [.int .i64 ((ix p0.Emptyings (ix r23.1 s252.2)).ID), .int .i64 ((ix p0.Emptyings (ix r23.1 s252.2)).Container), .int .i64 ((ix p0.Emptyings (ix r23.1 s252.2)).Vehicle), .int .i64 ((ix p0.Emptyings (ix r23.1 s252.2)).At), .int .i64 ((ix p0.Emptyings (ix r23.1 s252.2)).Mass.Lo), .int .i64 ((ix p0.Emptyings (ix r23.1 s252.2)).Mass.Hi), .bool ((ix p0.Emptyings (ix r23.1 s252.2)).Void)]]) [blkE b5 28 [.slice A_p01 n_p01 c_p01, .slice A_p02 n_p02 c_p02, .slice A_p03 n_p03 c_p03, .slice A_p04 n_p04 c_p04, .slice A_p05 n_p05 c_p05, .int .i64 p0.Gap], blkE b6 34 [.int .i64 p3.From, .int .i64 p3.To], blkE b7 39 [.int .i64 0, .int .i64 0, .int .i64 0, .int .i64 0, .slice none 0 0, .int .i64 0], ownE 66 5 encApiItem u253.1 u253.2.1 u253.2.2 s252.1, ownE 3 1 encI u24.1 u24.2.1 u24.2.2 r23.1] 10 (by kernel_rfl) (by rfl) (hsub [0, 1, 2, 3, 4] (by kernel_rfl) (by rfl)) ?_ ?_
        ·intro w269 c270
         refine wh_take 0 95 rfl (by kernel_rfl) (by kernel_rfl) (fun w2 c2 => (op_fieldL (m := 3) (k := 3) rfl (by kernel_rfl) rfl)) (hsub [0, 1, 2, 3, 4] (by kernel_rfl) rfl _ c270) ?_
         refine wh_take 1 96 rfl (by kernel_rfl) (by kernel_rfl) (fun w2 c2 => (op_load rfl (by kernel_rfl) (c2.cell 0 (u := .slice _ _ _) rfl rfl))) (hsub [0, 1, 2, 3, 4] (by kernel_rfl) rfl _ c270) ?_
         refine wh_take 2 97 rfl (by kernel_rfl) (by kernel_rfl) (fun w2 c2 => (op_move (v := .slice _ _ _) rfl)) (hsub [0, 1, 2, 3, 4] (by kernel_rfl) rfl _ c270) ?_
         refine wh_take 3 98 rfl (by kernel_rfl) (by kernel_rfl) (fun w2 c2 => (op_move (v := .int .i64 _) rfl)) (hsub [0, 1, 2, 3, 4] (by kernel_rfl) rfl _ c270) ?_
         refine wh_take 4 99 rfl (by kernel_rfl) (by kernel_rfl) (fun w2 c2 => (op_indexA 1 rfl rfl (by kernel_rfl) ((c2.own 4 rfl encI_len).addr h255.1 h255.2) (c2.ownZ 4 rfl).2.2 h255.1 h255.2)) (hsub [0, 1, 2, 3, 4] (by kernel_rfl) rfl _ c270) ?_
         refine wh_take 5 100 rfl (by kernel_rfl) (by kernel_rfl) (fun w2 c2 => (op_load (v := .int .i64 (ix r23.1 s252.2)) rfl (by kernel_rfl) ((c2.own 4 rfl encI_len).cell0 h255.1 h255.2 rfl))) (hsub [0, 1, 2, 3, 4] (by kernel_rfl) rfl _ c270) ?_
         refine wh_take 6 101 rfl (by kernel_rfl) (by kernel_rfl) (fun w2 c2 => (op_indexA 7 rfl rfl (by kernel_rfl) ((hr_p04.old c2).addr h256.1 h256.2) hz_p04.2.2 h256.1 h256.2)) (hsub [0, 1, 2, 3, 4] (by kernel_rfl) rfl _ c270) ?_
         refine wh_take 7 102 rfl (by kernel_rfl) (by kernel_rfl) (fun w2 c2 => (op_loadR [.int .i64 ((ix p0.Emptyings (ix r23.1 s252.2)).ID), .int .i64 ((ix p0.Emptyings (ix r23.1 s252.2)).Container), .int .i64 ((ix p0.Emptyings (ix r23.1 s252.2)).Vehicle), .int .i64 ((ix p0.Emptyings (ix r23.1 s252.2)).At), .int .i64 ((ix p0.Emptyings (ix r23.1 s252.2)).Mass.Lo), .int .i64 ((ix p0.Emptyings (ix r23.1 s252.2)).Mass.Hi), .bool ((ix p0.Emptyings (ix r23.1 s252.2)).Void)] rfl (by kernel_rfl) ((hr_p04.old c2).row h256.1 h256.2))) (hsub [0, 1, 2, 3, 4] (by kernel_rfl) rfl _ c270) ?_
         refine wh_ready [8] (by kernel_rfl) rfl ⟨?_, trivial⟩
         refine ws_alloc 16 [.int .i64 0, .int .i64 0, .int .i64 0, .int .i64 0, .int .i64 0, .int .i64 0, .bool false] (v := .agg #[.int .i64 0, .int .i64 0, .int .i64 0, .int .i64 0, .int .i64 0, .int .i64 0, .bool false]) rfl (by kernel_rfl) (by kernel_rfl) rfl c270 ?_
         intro b271 w272 c273
         refine ⟨(hsub [1, 2, 3, 4, 5] (by kernel_rfl) rfl _ c273), ?_⟩
         refine wh_ready [9] (by kernel_rfl) rfl ⟨?_, trivial⟩
         refine ws_storeA 0 [.int .i64 _, .int .i64 _, .int .i64 _, .int .i64 _, .int .i64 _, .int .i64 _, .bool _] [_, _, _, _, _, _, _] rfl (by kernel_rfl) rfl rfl (by kernel_rfl) rfl rfl (by kernel_rfl) rfl (H' := [blkE _ _ [_, _, _, _, _, _, _], _, _, _, _, _]) rfl c273 ?_
         intro w274 c275
         refine ⟨(hsub [1, 2, 3, 4, 5] (by kernel_rfl) rfl _ c275), ?_⟩
         exact wh_done b271 (by kernel_rfl) sq (hsub [1, 2, 3, 4, 5, 0] (by kernel_rfl) rfl _ c275)
        intro u267
        refine xm_next ?_
        refine sr ?_
        refine v_ 104 (fun _ _ => oF 4 4 rfl) ?_
        refine v_ 105 (fun _ c1 => oL (c1.cell 0 (u := .slice _ _ _) rfl rfl)) ?_
        refine v_ 106 (fun _ _ => oF 3 3 rfl) ?_
        refine v_ 107 (fun _ c1 => oL (c1.cell 5 (u := .int .i64 _) rfl rfl)) ?_
        refine lm_ck (fun h276 => ?_)
        refine v_ 108 (fun _ _ => op_quoK rfl rfl (by kernel_rfl) h276) ?_
        refine lm_call 109 (V := (fun (r : Int × Int) (_u : Unit) => .tuple #[.int .i64 r.1, .int .i64 r.2])) (HR := (fun (_r : Int × Int) (_u : Unit) => [])) (by kernel_rfl) (fun w1 => op_call (by kernel_rfl)) (fun r1 hr1 w1 c1 => m_recyclingref53_At_ok N w1 p0.Tariffs (Int.tdiv ((ix p0.Emptyings (ix r23.1 s252.2)).At) 86400) A_p05 n_p05 c_p05 (hr_p05.old c1) hz_p05 r1 hr1) ?_
        intro r277 u278
        refine la 5 ((18, .int .i64 _) :: (17, .int .i64 _) :: (111, .int .i64 _) :: (110, .int .i64 _) :: (103, .tuple _) :: _) rfl ?_
        refine nn ?_
        refine cm_seq ?_
        refine cm_ck (fun h279 => ?_)
        refine cm_bind fun r280 h281 => ?_
        refine cm_held (ξ := (Option Addr) × Nat × Nat) (fun u285 => [(1, .int .i64 p1), (2, .int .i64 p2), (4, .pointer (some ⟨b5, 0, none⟩)), (7, .pointer (some ⟨b6, 0, none⟩)), (8, .pointer (some ⟨b7, 0, none⟩)), (11, .slice u253.1 u253.2.1 u253.2.2), (13, .slice u24.1 u24.2.1 u24.2.2), (15, .int .i64 s252.2), (19, .slice u285.1 u285.2.1 u285.2.2)]) (fun u285 => [blkE b5 28 [.slice A_p01 n_p01 c_p01, .slice A_p02 n_p02 c_p02, .slice A_p03 n_p03 c_p03, .slice A_p04 n_p04 c_p04, .slice A_p05 n_p05 c_p05, .int .i64 p0.Gap], blkE b6 34 [.int .i64 p3.From, .int .i64 p3.To], blkE b7 39 [.int .i64 0, .int .i64 0, .int .i64 0, .int .i64 0, .slice none 0 0, .int .i64 0], ownE 66 5 encApiItem u253.1 u253.2.1 u253.2.2 s252.1, ownE 3 1 encI u24.1 u24.2.1 u24.2.2 r23.1, ownE 66 5 encApiItem u285.1 u285.2.1 u285.2.2 r280.1]) [blkE b5 28 [.slice A_p01 n_p01 c_p01, .slice A_p02 n_p02 c_p02, .slice A_p03 n_p03 c_p03, .slice A_p04 n_p04 c_p04, .slice A_p05 n_p05 c_p05, .int .i64 p0.Gap], blkE b6 34 [.int .i64 p3.From, .int .i64 p3.To], blkE b7 39 [.int .i64 0, .int .i64 0, .int .i64 0, .int .i64 0, .slice none 0 0, .int .i64 0], ownE 66 5 encApiItem u253.1 u253.2.1 u253.2.2 s252.1, ownE 3 1 encI u24.1 u24.2.1 u24.2.2 r23.1, blkE u267 59 [.int .i64 ((ix p0.Emptyings (ix r23.1 s252.2)).ID), .int .i64 ((ix p0.Emptyings (ix r23.1 s252.2)).Container), .int .i64 ((ix p0.Emptyings (ix r23.1 s252.2)).Vehicle), .int .i64 ((ix p0.Emptyings (ix r23.1 s252.2)).At), .int .i64 ((ix p0.Emptyings (ix r23.1 s252.2)).Mass.Lo), .int .i64 ((ix p0.Emptyings (ix r23.1 s252.2)).Mass.Hi), .bool ((ix p0.Emptyings (ix r23.1 s252.2)).Void)]] 12 (by kernel_rfl) (by rfl) (hsub [0, 1, 2, 3, 4, 5] (by kernel_rfl) (by rfl)) ?_ ?_
        ·intro w287 c288
         refine wh_take 0 113 rfl (by kernel_rfl) (by kernel_rfl) (fun w2 c2 => (op_fieldL (m := 4) (k := 4) rfl (by kernel_rfl) rfl)) (hsub [0, 1, 2, 3, 4, 5] (by kernel_rfl) rfl _ c288) ?_
         refine wh_take 1 114 rfl (by kernel_rfl) (by kernel_rfl) (fun w2 c2 => (op_load rfl (by kernel_rfl) (c2.cell 0 (u := .slice _ _ _) rfl rfl))) (hsub [0, 1, 2, 3, 4, 5] (by kernel_rfl) rfl _ c288) ?_
         refine wh_take 2 115 rfl (by kernel_rfl) (by kernel_rfl) (fun w2 c2 => (op_move (v := .int .i64 _) rfl)) (hsub [0, 1, 2, 3, 4, 5] (by kernel_rfl) rfl _ c288) ?_
         refine wh_take 3 116 rfl (by kernel_rfl) (by kernel_rfl) (fun w2 c2 => (op_indexA 5 rfl rfl (by kernel_rfl) ((hr_p05.old c2).addr h279.1 h279.2) hz_p05.2.2 h279.1 h279.2)) (hsub [0, 1, 2, 3, 4, 5] (by kernel_rfl) rfl _ c288) ?_
         refine wh_take 4 117 rfl (by kernel_rfl) (by kernel_rfl) (fun w2 c2 => (op_loadR [.int .i64 ((ix p0.Tariffs r277.1).From), .int .i64 ((ix p0.Tariffs r277.1).Base), .int .i64 ((ix p0.Tariffs r277.1).Empty), .int .i64 ((ix p0.Tariffs r277.1).Kilo), .int .i64 ((ix p0.Tariffs r277.1).Free)] rfl (by kernel_rfl) ((hr_p05.old c2).row h279.1 h279.2))) (hsub [0, 1, 2, 3, 4, 5] (by kernel_rfl) rfl _ c288) ?_
         refine wh_take 5 118 rfl (by kernel_rfl) (by kernel_rfl) (fun w2 c2 => (op_loadR [.int .i64 _, .int .i64 _, .int .i64 _, .int .i64 _, .int .i64 _, .int .i64 _, .bool _] rfl (by kernel_rfl) (c2.cells 5 rfl rfl))) (hsub [0, 1, 2, 3, 4, 5] (by kernel_rfl) rfl _ c288) ?_
         refine wh_ready [6] (by kernel_rfl) rfl ⟨?_, trivial⟩
         refine ws_call 119 rfl (by kernel_rfl) (op_call (by kernel_rfl)) (m_recyclingref53_Items_ok N _ (ix p0.Tariffs r277.1) (ix p0.Emptyings (ix r23.1 s252.2))  r280 h281) ?_
         rintro x w290 ⟨u289, rfl, c291⟩
         replace c291 := c288.call c291
         refine ⟨_, rfl, (hsub [1, 2, 3, 4, 5, 6] (by kernel_rfl) rfl _ c291), ?_⟩
         refine wh_strong (Hs w0 [ownE 66 5 encApiItem u289.1 u289.2.1 u289.2.2 r280.1, blkE b5 28 [.slice A_p01 n_p01 c_p01, .slice A_p02 n_p02 c_p02, .slice A_p03 n_p03 c_p03, .slice A_p04 n_p04 c_p04, .slice A_p05 n_p05 c_p05, .int .i64 p0.Gap], blkE b6 34 [.int .i64 p3.From, .int .i64 p3.To], blkE b7 39 [.int .i64 0, .int .i64 0, .int .i64 0, .int .i64 0, .slice none 0 0, .int .i64 0], ownE 66 5 encApiItem u253.1 u253.2.1 u253.2.2 s252.1, ownE 3 1 encI u24.1 u24.2.1 u24.2.2 r23.1, blkE u267 59 [.int .i64 ((ix p0.Emptyings (ix r23.1 s252.2)).ID), .int .i64 ((ix p0.Emptyings (ix r23.1 s252.2)).Container), .int .i64 ((ix p0.Emptyings (ix r23.1 s252.2)).Vehicle), .int .i64 ((ix p0.Emptyings (ix r23.1 s252.2)).At), .int .i64 ((ix p0.Emptyings (ix r23.1 s252.2)).Mass.Lo), .int .i64 ((ix p0.Emptyings (ix r23.1 s252.2)).Mass.Hi), .bool ((ix p0.Emptyings (ix r23.1 s252.2)).Void)]]) (fun w2 c2 => hsub [1, 2, 3, 4, 5, 6] (by kernel_rfl) rfl w2 c2) ?_
         refine wh_take 7 112 rfl (by kernel_rfl) (by kernel_rfl) (fun w2 c2 => (op_move (v := .tuple _) rfl)) (hsub [0, 1, 2, 3, 4, 5, 6] (by kernel_rfl) rfl _ c291) ?_
         refine wh_take 8 120 rfl (by kernel_rfl) (by kernel_rfl) (fun w2 c2 => (op_extract (v := .slice _ _ _) rfl rfl)) (hsub [0, 1, 2, 3, 4, 5, 6] (by kernel_rfl) rfl _ c291) ?_
         refine wh_take 9 121 rfl (by kernel_rfl) (by kernel_rfl) (fun w2 c2 => (op_extract (v := .int .i64 _) rfl rfl)) (hsub [0, 1, 2, 3, 4, 5, 6] (by kernel_rfl) rfl _ c291) ?_
         refine wh_take 10 19 rfl (by kernel_rfl) (by kernel_rfl) (fun w2 c2 => (op_assign (v := .slice _ _ _) rfl)) (hsub [0, 1, 2, 3, 4, 5, 6] (by kernel_rfl) rfl _ c291) ?_
         refine wh_take 11 20 rfl (by kernel_rfl) (by kernel_rfl) (fun w2 c2 => (op_assign (v := .int .i64 _) rfl)) (hsub [0, 1, 2, 3, 4, 5, 6] (by kernel_rfl) rfl _ c291) ?_
         exact wh_done (u289.1, u289.2.1, u289.2.2) (by kernel_rfl) sq (hsub [1, 2, 3, 4, 5, 0] (by kernel_rfl) rfl _ c291)
        intro u285
        refine xm_next ?_
        refine cm_region ?_
        refine la 2 ((123, .slice _ _ _) :: (122, .slice _ _ _) :: _) rfl ?_
        refine lm_ck (fun h292 => ?_)
        refine lm_append 124 3 (el := 66) (sz := 5) (bytes := 40) (enc := encApiItem) (l2 := r280.1) (by kernel_rfl) (by kernel_rfl) encApiItem_len encApiItem_one rfl rfl rfl (fun w1 c1 => (c1.ownZ 5 rfl)) (fun w1 c1 => (c1.own 5 rfl encApiItem_len)) h292 ?_ (by kernel_rfl)
        intro A293 n294 k295
        refine la 1 ((11, .slice _ _ _) :: _) rfl ?_
        refine lm_nil ?_
        refine xm_inN ?_
        refine xm_next ?_
        refine cm_region ?_
        refine la 1 ((93, .int .i64 _) :: _) rfl ?_
        refine lm_ck (fun h296 => ?_)
        refine v_ 94 (fun _ _ => op_add rfl rfl h296) ?_
        refine la 1 ((15, .int .i64 _) :: _) rfl ?_
        refine lm_nil ?_
        exact xm_lnext (A293, n294, k295) sq (sh [0, 1, 2, 3, 4])
       ·refine cm_exit ?_
        refine xm_thenE ?_
        refine xm_lexit ?_
        refine xm_here ?_
        exact xm_lnext (u253.1, u253.2.1, u253.2.2) sq (sh [1, 2, 3])
      intro s160 u161
      refine cm_seq ?_
      refine sr ?_
      refine la 1 ((125, .slice _ _ _) :: _) rfl ?_
      refine v_ 126 (fun _ c1 => op_lenN rfl (by kernel_rfl) (c1.ownZ 2 rfl).2.2) ?_
      refine la 1 ((127, .bool _) :: _) rfl ?_
      refine nn ?_
      refine cm_cond (by kernel_rfl) rfl (fun h297 => ?_) (fun h297 => ?_)
      ·refine sr ?_
       refine v_ 128 (fun _ _ => op_build (z := [.int .i64 0, .int .i64 0, .int .i64 0, .int .i64 0, .slice none 0 0, .int .i64 0]) (tab := [(0, 1), (1, 1), (2, 2), (4, 1), (5, 1)]) (cs := [.int .i64 _, .int .i64 _, .int .i64 _, .int .i64 _, .slice _ _ _, .int .i64 _]) [] (by kernel_rfl) (by kernel_rfl) fillOk_nil rfl) ?_
       refine lm_storeA 1 [.int .i64 _, .int .i64 _, .int .i64 _, .int .i64 _, .slice _ _ _, .int .i64 _] [_, _, _, _, _, _] (H' := [_, blkE _ _ [_, _, _, _, _, _], _]) (by kernel_rfl) rfl rfl (by kernel_rfl) rfl rfl (by kernel_rfl) rfl rfl ?_
       refine la 1 ((9, .int .i64 _) :: _) rfl ?_
       refine nn ?_
       refine cm_ret ?_
       refine xm_thenR ?_
       refine xm_nilrow 66 5 encApiItem ?_
       exact xm_retCT rfl (by kernel_rfl) (show _ = Value.pointer (some ⟨_, 0, none⟩) from rfl) (by kernel_rfl) (fun w1 c1 => c1.cells 2 (ds := [.int .i64 _, .int .i64 _, .int .i64 _, .int .i64 _, .slice _ _ _, .int .i64 _]) rfl rfl) (by kernel_rfl) (show _ = Value.int .i64 _ from rfl) fun w1 c1 => ⟨(none, 0, 0), rfl, hsub [0] (by kernel_rfl) rfl w1 c1⟩
      ·refine sk ?_
       refine cm_seq ?_
       refine sr ?_
       refine la 1 ((129, .slice _ _ _) :: _) rfl ?_
       refine lm_call 130 (V := (fun (r : Int) (_u : Unit) => .int .i64 r)) (HR := (fun (_r : Int) (_u : Unit) => [])) (by kernel_rfl) (fun w1 => op_call (by kernel_rfl)) (fun r1 hr1 w1 c1 => m_recyclingref54_sum_ok N w1 s160 u161.1 u161.2.1 u161.2.2 (c1.own 2 rfl encApiItem_len) (c1.ownZ 2 rfl) r1 hr1) ?_
       intro r298 u299
       refine la 1 ((131, .bool _) :: _) rfl ?_
       refine nn ?_
       refine cm_cond (by kernel_rfl) rfl (fun h300 => ?_) (fun h300 => ?_)
       ·refine sr ?_
        refine v_ 132 (fun _ _ => op_build (z := [.int .i64 0, .int .i64 0, .int .i64 0, .int .i64 0, .slice none 0 0, .int .i64 0]) (tab := [(0, 1), (1, 1), (2, 2), (4, 1), (5, 1)]) (cs := [.int .i64 _, .int .i64 _, .int .i64 _, .int .i64 _, .slice _ _ _, .int .i64 _]) [] (by kernel_rfl) (by kernel_rfl) fillOk_nil rfl) ?_
        refine lm_storeA 1 [.int .i64 _, .int .i64 _, .int .i64 _, .int .i64 _, .slice _ _ _, .int .i64 _] [_, _, _, _, _, _] (H' := [_, blkE _ _ [_, _, _, _, _, _], _]) (by kernel_rfl) rfl rfl (by kernel_rfl) rfl rfl (by kernel_rfl) rfl rfl ?_
        refine la 1 ((9, .int .i64 _) :: _) rfl ?_
        refine nn ?_
        refine cm_ret ?_
        refine xm_thenR ?_
        refine xm_nilrow 66 5 encApiItem ?_
        exact xm_retCT rfl (by kernel_rfl) (show _ = Value.pointer (some ⟨_, 0, none⟩) from rfl) (by kernel_rfl) (fun w1 c1 => c1.cells 2 (ds := [.int .i64 _, .int .i64 _, .int .i64 _, .int .i64 _, .slice _ _ _, .int .i64 _]) rfl rfl) (by kernel_rfl) (show _ = Value.int .i64 _ from rfl) fun w1 c1 => ⟨(none, 0, 0), rfl, hsub [0] (by kernel_rfl) rfl w1 c1⟩
       ·refine sk ?_
        refine cm_seq ?_
        refine cm_bind fun r301 h302 => ?_
        refine cm_held (ξ := Unit) (fun u310 => [(8, .pointer (some ⟨b7, 0, none⟩)), (9, .int .i64 0)]) (fun u310 => [blkE b7 39 [.int .i64 p1, .int .i64 p2, .int .i64 p3.From, .int .i64 p3.To, .slice u161.1 u161.2.1 u161.2.2, .int .i64 r301], ownE 66 5 encApiItem u161.1 u161.2.1 u161.2.2 s160]) [blkE b6 34 [.int .i64 p3.From, .int .i64 p3.To], ownE 66 5 encApiItem u161.1 u161.2.1 u161.2.2 s160] 9 (by kernel_rfl) (by rfl) (hsub [0, 2] (by kernel_rfl) (by rfl)) ?_ ?_
        ·intro w312 c313
         refine wh_take 0 133 rfl (by kernel_rfl) (by kernel_rfl) (fun w2 c2 => (op_move (v := .int .i64 _) rfl)) (hsub [0, 2] (by kernel_rfl) rfl _ c313) ?_
         refine wh_take 1 134 rfl (by kernel_rfl) (by kernel_rfl) (fun w2 c2 => (op_move (v := .int .i64 _) rfl)) (hsub [0, 2] (by kernel_rfl) rfl _ c313) ?_
         refine wh_take 2 135 rfl (by kernel_rfl) (by kernel_rfl) (fun w2 c2 => (op_loadR [.int .i64 _, .int .i64 _] rfl (by kernel_rfl) (c2.cells 0 rfl rfl))) (hsub [0, 2] (by kernel_rfl) rfl _ c313) ?_
         refine wh_take 3 136 rfl (by kernel_rfl) (by kernel_rfl) (fun w2 c2 => (op_move (v := .slice _ _ _) rfl)) (hsub [0, 2] (by kernel_rfl) rfl _ c313) ?_
         refine wh_take 4 137 rfl (by kernel_rfl) (by kernel_rfl) (fun w2 c2 => (op_move (v := .slice _ _ _) rfl)) (hsub [0, 2] (by kernel_rfl) rfl _ c313) ?_
         refine wh_ready [5] (by kernel_rfl) rfl ⟨?_, trivial⟩
         refine ws_call 138 rfl (by kernel_rfl) (op_call (by kernel_rfl)) (m_recyclingref54_sum_ok N _ s160 u161.1 u161.2.1 u161.2.2 (c313.own 2 rfl encApiItem_len) (c313.ownZ 2 rfl) r301 h302) ?_
         rintro x w315 ⟨u314, rfl, c316⟩
         replace c316 := c313.call c316
         refine ⟨_, rfl, (hsub [0, 2] (by kernel_rfl) rfl _ c316), ?_⟩
         refine wh_take 6 139 rfl (by kernel_rfl) (by kernel_rfl) (fun w2 c2 => (op_build (z := [.int .i64 0, .int .i64 0, .int .i64 0, .int .i64 0, .slice none 0 0, .int .i64 0]) (tab := [(0, 1), (1, 1), (2, 2), (4, 1), (5, 1)]) (cs := [.int .i64 _, .int .i64 _, .int .i64 _, .int .i64 _, .slice _ _ _, .int .i64 _]) [(0, [.int .i64 _]), (1, [.int .i64 _]), (2, [.int .i64 _, .int .i64 _]), (4, [.slice _ _ _]), (5, [.int .i64 _])] (by kernel_rfl) (by kernel_rfl) (fillOk_cons rfl rfl rfl (fillOk_cons rfl rfl rfl (fillOk_cons rfl rfl rfl (fillOk_cons rfl rfl rfl (fillOk_cons rfl rfl rfl fillOk_nil))))) rfl)) (hsub [0, 2] (by kernel_rfl) rfl _ c316) ?_
         refine wh_ready [7] (by kernel_rfl) rfl ⟨?_, trivial⟩
         refine ws_storeA 1 [.int .i64 _, .int .i64 _, .int .i64 _, .int .i64 _, .slice _ _ _, .int .i64 _] [_, _, _, _, _, _] rfl (by kernel_rfl) rfl rfl (by kernel_rfl) rfl rfl (by kernel_rfl) rfl (H' := [_, blkE _ _ [_, _, _, _, _, _], _]) rfl c316 ?_
         intro w317 c318
         refine ⟨(hsub [0, 2] (by kernel_rfl) rfl _ c318), ?_⟩
         refine wh_take 8 9 rfl (by kernel_rfl) (by kernel_rfl) (fun w2 c2 => (op_assign (v := .int .i64 _) rfl)) (hsub [0, 2] (by kernel_rfl) rfl _ c318) ?_
         exact wh_done () (by kernel_rfl) sq (hsub [1, 2] (by kernel_rfl) rfl _ c318)
        intro u310
        refine xm_next ?_
        refine cm_ret ?_
        exact xm_retCT rfl (by kernel_rfl) (show _ = Value.pointer (some ⟨_, 0, none⟩) from rfl) (by kernel_rfl) (fun w1 c1 => c1.cells 0 (ds := [.int .i64 _, .int .i64 _, .int .i64 _, .int .i64 _, .slice _ _ _, .int .i64 _]) rfl rfl) (by kernel_rfl) (show _ = Value.int .i64 _ from rfl) fun w1 c1 => ⟨(u161.1, u161.2.1, u161.2.2), rfl, hsub [1] (by kernel_rfl) rfl w1 c1⟩
end Go.Proofs.YtpbgfdmkebnjgaaGreatDoor
