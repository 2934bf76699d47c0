/- Models of functions, and that the code follows them. Written by deco.py. -/
import Derived.Test.YtpbgfdmkebnjgaaGreatDoorBRS
namespace Go.Proofs.YtpbgfdmkebnjgaaGreatDoor
open Go.RowKit
set_option linter.unusedSectionVars false
variable [JF]

/-- recyclingref54.money -/
def m_recyclingref54_money (_N : Nat) (p0 : Int) : Option (Bool) :=
 some (((decide (-1000000000000 ≤ p0)) && (decide (p0 ≤ 1000000000000))))
set_option maxRecDepth 20000 in
theorem m_recyclingref54_money_ok (N : Nat) (w0 : World) (p0 : Int)   (r : Bool) (hr : m_recyclingref54_money N p0 = some r) :
  Ret Tryz.prog 52 [.int .i64 p0] w0 (fun (r : Bool) (_u : Unit) => .bool r) (fun (_r : Bool) (_u : Unit) => []) r := by
 refine calls_v (n := 9) r hr Tryz.func52 ?_
 unfold m_recyclingref54_money
 refine sr ?_
 refine la 1 ((2, .bool false) :: _) rfl ?_
 refine nn ?_
 refine cm_seq ?_
 refine cm_cutE [(2, .bool ((decide (-1000000000000 ≤ p0)) && (decide (p0 ≤ 1000000000000))))] ?_ ?_
 ·refine qa 1 ((3, .int .i64 _) :: _) rfl ?_
  refine qd 4 (fun _ _ => op_geq rfl rfl) (fun h5 => ?_) (fun h5 => ?_)
  ·refine qa 5 ((2, .bool _) :: (8, .bool _) :: (7, .bool _) :: (6, .int .i64 _) :: (5, .bool true) :: _) rfl ?_
   exact leaf_q (sub_out 7 _ rfl (by kernel_rfl) ⟨(congrArg Value.bool (by rw [decide_eq_true h5] <;> rfl)), trivial⟩)
  ·refine qa 5 ((2, .bool false) :: (8, .bool false) :: (7, undef) :: (6, undef) :: (5, .bool false) :: _) rfl ?_
   exact leaf_q (sub_out 7 _ rfl (by kernel_rfl) ⟨(congrArg Value.bool (by rw [decide_eq_false h5] <;> rfl)), trivial⟩)
 refine xm_next ?_
 refine cm_ret ?_
 exact xm_retT rfl (by kernel_rfl) (show _ = Value.bool _ from rfl) fun w1 c1 => ⟨(), rfl, hsub [] (by kernel_rfl) rfl w1 c1⟩
/-- recyclingref54.Charged -/
def m_recyclingref54_Charged (N : Nat) (p0 : (List ApiItem)) (p1 : Int) : Option (Int × Bool) :=
 (andThen
  (loopM (fun (s133 : Int × Bool × Int) =>
   (if s133.2.2 < (List.length p0 : Int) then
    (andThen
     (ck ((0 : Int) ≤ s133.2.2 ∧ s133.2.2 < (List.length p0 : Int)) (
      ck (decide ((ix p0 s133.2.2).Ref = p1) = true → (0 : Int) ≤ s133.2.2 ∧ s133.2.2 < (List.length p0 : Int)) (
       ck (((decide ((ix p0 s133.2.2).Ref = p1)) && (!(decide ((ix p0 s133.2.2).Kind = 2)))) = true → (0 : Int) ≤ s133.2.2 ∧ s133.2.2 < (List.length p0 : Int)) (
        (if ((decide ((ix p0 s133.2.2).Ref = p1)) && ((decide ((ix p0 s133.2.2).Kind = 2)) || (decide ((ix p0 s133.2.2).Kind = 3)))) = true then
         ck ((0 : Int) ≤ s133.2.2 ∧ s133.2.2 < (List.length p0 : Int)) (
          ck (I64 (s133.1 + ((ix p0 s133.2.2).Amount))) (
           ck ((!s133.2.1) = true → (0 : Int) ≤ s133.2.2 ∧ s133.2.2 < (List.length p0 : Int)) (
            some (.next ((s133.1 + ((ix p0 s133.2.2).Amount)), (s133.2.1 || (decide ((ix p0 s133.2.2).Kind = 2))))))))
        else
         some (.next (s133.1, s133.2.1)))))))
    fun (s146 : Int × Bool) =>
     ck (I64 (s133.2.2 + (1 : Int))) (
      some (.next (s146.1, s146.2, (s133.2.2 + (1 : Int))))))
   else
    some (.done (.next (s133.1, s133.2.1))))) N ((0 : Int), false, (0 : Int)))
 fun (s81 : Int × Bool) =>
  some ((s81.1, s81.2)))
set_option maxHeartbeats 2000000 in
set_option maxRecDepth 20000 in
theorem m_recyclingref54_Charged_ok (N : Nat) (w0 : World) (p0 : (List ApiItem)) (p1 : Int) (A_p0 : Option Addr) (n_p0 c_p0 : Nat) (hr_p0 : RdE w0 5 encApiItem A_p0 p0) (hz_p0 : SW A_p0 n_p0 c_p0 (List.length p0)) (r : Int × Bool) (hr : m_recyclingref54_Charged N p0 p1 = some r) :
  Ret Tryz.prog 53 [.slice A_p0 n_p0 c_p0, .int .i64 p1] w0 (fun (r : Int × Bool) (_u : Unit) => .tuple #[.int .i64 r.1, .bool r.2]) (fun (_r : Int × Bool) (_u : Unit) => []) r := by
 refine calls_v (n := 56) r hr Tryz.func53 ?_
 unfold m_recyclingref54_Charged
 refine sr ?_
 refine la 2 ((5, .bool false) :: (4, .int .i64 _) :: _) rfl ?_
 refine nn ?_
 refine sr ?_
 refine la 2 ((7, .bool false) :: (6, .int .i64 _) :: _) rfl ?_
 refine nn ?_
 refine cm_join (σ := Int × Bool) (ξ := Unit) (fun s81 u82 => [(6, .int .i64 s81.1), (7, .bool s81.2)]) (fun s81 u82 => []) ?_ ?_
 ·refine sr ?_
  refine la 1 ((8, .int .i64 _) :: _) rfl ?_
  refine nn ?_
  refine cm_block ?_
  refine cm_loop (σ := Int × Bool × Int) (ξ := Unit) (fun s133 u134 => [(0, .slice A_p0 n_p0 c_p0), (1, .int .i64 p1), (6, .int .i64 s133.1), (7, .bool s133.2.1), (8, .int .i64 s133.2.2)]) (fun s133 u134 => []) () ?_ ?_ ?_
  ·exact sq
  ·exact sh []
  intro s133 u134
  refine cm_seq ?_
  refine sr ?_
  refine la 2 ((10, .slice _ _ _) :: (9, .int .i64 _) :: _) rfl ?_
  refine v_ 11 (fun _ _ => op_lenN rfl (by kernel_rfl) hz_p0.2.2) ?_
  refine la 1 ((12, .bool _) :: _) rfl ?_
  refine nn ?_
  refine cm_cond (by kernel_rfl) rfl (fun h135 => ?_) (fun h135 => ?_)
  ·refine sk ?_
   refine cm_join (σ := Int × Bool) (ξ := Unit) (fun s146 u147 => [(0, .slice A_p0 n_p0 c_p0), (1, .int .i64 p1), (6, .int .i64 s146.1), (7, .bool s146.2), (8, .int .i64 s133.2.2)]) (fun s146 u147 => []) ?_ ?_
   ·refine cm_block ?_
    refine cm_seq ?_
    refine cm_ck (fun h148 => ?_)
    refine cm_ck (fun h149 => ?_)
    refine cm_ck (fun h150 => ?_)
    refine cm_cutE [(37, .bool ((decide ((ix p0 s133.2.2).Ref = p1)) && ((decide ((ix p0 s133.2.2).Kind = 2)) || (decide ((ix p0 s133.2.2).Kind = 3)))))] ?_ ?_
    ·refine qa 2 ((16, .int .i64 _) :: (15, .slice _ _ _) :: _) rfl ?_
     refine q_ 17 (fun _ c1 => oI 5 rfl rfl ((hr_p0.old c1).addr h148.1 h148.2) hz_p0.2.2 h148) ?_
     refine q_ 18 (fun _ _ => op_field (m := 1) rfl (by kernel_rfl)) ?_
     refine q_ 19 (fun _ c1 => oL (v := .int .i64 ((ix p0 s133.2.2).Ref)) ((hr_p0.old c1).cell (j := 1) h148.1 h148.2 rfl)) ?_
     refine qa 1 ((20, .int .i64 _) :: _) rfl ?_
     refine qd 21 (fun _ _ => op_eql rfl rfl) (fun h151 => ?_) (fun h151 => ?_)
     ·refine qa 3 ((24, .int .i64 _) :: (23, .slice _ _ _) :: (22, .bool true) :: _) rfl ?_
      refine q_ 25 (fun _ c1 => oI 5 rfl rfl ((hr_p0.old c1).addr (h149 (by rw [decide_eq_true h151] <;> rfl)).1 (h149 (by rw [decide_eq_true h151] <;> rfl)).2) hz_p0.2.2 (h149 (by rw [decide_eq_true h151] <;> rfl))) ?_
      refine q_ 26 (fun _ _ => op_field0 rfl (by kernel_rfl)) ?_
      refine q_ 27 (fun _ c1 => oL (v := .int .i64 ((ix p0 s133.2.2).Kind)) ((hr_p0.old c1).cell0 (h149 (by rw [decide_eq_true h151] <;> rfl)).1 (h149 (by rw [decide_eq_true h151] <;> rfl)).2 rfl)) ?_
      refine qd 28 (fun _ _ => op_eql rfl rfl) (fun h152 => ?_) (fun h152 => ?_)
      ·refine qa 9 ((37, .bool true) :: (36, .bool true) :: (35, undef) :: (34, undef) :: (33, undef) :: (32, undef) :: (31, undef) :: (30, undef) :: (29, .bool true) :: _) rfl ?_
       exact leaf_q (sub_out 23 _ rfl (by kernel_rfl) ⟨(congrArg Value.bool (by rw [decide_eq_true h151, decide_eq_true h152] <;> rfl)), trivial⟩)
      ·refine qa 3 ((31, .int .i64 _) :: (30, .slice _ _ _) :: (29, .bool false) :: _) rfl ?_
       refine q_ 32 (fun _ c1 => oI 5 rfl rfl ((hr_p0.old c1).addr (h150 (by rw [decide_eq_true h151, decide_eq_false h152] <;> rfl)).1 (h150 (by rw [decide_eq_true h151, decide_eq_false h152] <;> rfl)).2) hz_p0.2.2 (h150 (by rw [decide_eq_true h151, decide_eq_false h152] <;> rfl))) ?_
       refine q_ 33 (fun _ _ => op_field0 rfl (by kernel_rfl)) ?_
       refine q_ 34 (fun _ c1 => oL (v := .int .i64 ((ix p0 s133.2.2).Kind)) ((hr_p0.old c1).cell0 (h150 (by rw [decide_eq_true h151, decide_eq_false h152] <;> rfl)).1 (h150 (by rw [decide_eq_true h151, decide_eq_false h152] <;> rfl)).2 rfl)) ?_
       refine qa 3 ((37, .bool _) :: (36, .bool _) :: (35, .bool _) :: _) rfl ?_
       exact leaf_q (sub_out 23 _ rfl (by kernel_rfl) ⟨(congrArg Value.bool (by rw [decide_eq_true h151, decide_eq_false h152] <;> rfl)), trivial⟩)
     ·refine qa 16 ((37, .bool false) :: (36, undef) :: (35, undef) :: (34, undef) :: (33, undef) :: (32, undef) :: (31, undef) :: (30, undef) :: (29, undef) :: (28, undef) :: (27, undef) :: (26, undef) :: (25, undef) :: (24, undef) :: (23, undef) :: (22, .bool false) :: _) rfl ?_
      exact leaf_q (sub_out 23 _ rfl (by kernel_rfl) ⟨(congrArg Value.bool (by rw [decide_eq_false h151] <;> rfl)), trivial⟩)
    refine xm_next ?_
    refine cm_condB (by kernel_rfl) rfl (fun h153 => ?_) (fun h153 => ?_)
    ·refine sr ?_
     refine la 3 ((40, .int .i64 _) :: (39, .slice _ _ _) :: (38, .int .i64 _) :: _) rfl ?_
     refine lm_ck (fun h154 => ?_)
     refine v_ 41 (fun _ c1 => oI 5 rfl rfl ((hr_p0.old c1).addr h154.1 h154.2) hz_p0.2.2 h154) ?_
     refine v_ 42 (fun _ _ => op_field (m := 4) rfl (by kernel_rfl)) ?_
     refine v_ 43 (fun _ c1 => oL (v := .int .i64 ((ix p0 s133.2.2).Amount)) ((hr_p0.old c1).cell (j := 4) h154.1 h154.2 rfl)) ?_
     refine lm_ck (fun h155 => ?_)
     refine v_ 44 (fun _ _ => op_add rfl rfl h155) ?_
     refine la 1 ((6, .int .i64 _) :: _) rfl ?_
     refine nn ?_
     refine cm_ck (fun h156 => ?_)
     refine cm_of_then ?_
     refine cm_cutE [(7, .bool (s133.2.1 || (decide ((ix p0 s133.2.2).Kind = 2))))] ?_ ?_
     ·refine wq_bool 45 (by kernel_rfl) (fun w1 c1 => (op_move (v := .bool _) rfl)) (fun h157 => ?_) (fun h157 => ?_)
      ·refine qa 9 ((7, .bool true) :: (53, .bool true) :: (52, undef) :: (51, undef) :: (50, undef) :: (49, undef) :: (48, undef) :: (47, undef) :: (46, .bool true) :: _) rfl ?_
       exact leaf_q (sub_out 10 _ rfl (by kernel_rfl) ⟨(congrArg Value.bool (by rw [h157] <;> rfl)), trivial⟩)
      ·refine qa 3 ((48, .int .i64 _) :: (47, .slice _ _ _) :: (46, .bool false) :: _) rfl ?_
       refine q_ 49 (fun _ c1 => oI 5 rfl rfl ((hr_p0.old c1).addr (h156 (by rw [h157] <;> rfl)).1 (h156 (by rw [h157] <;> rfl)).2) hz_p0.2.2 (h156 (by rw [h157] <;> rfl))) ?_
       refine q_ 50 (fun _ _ => op_field0 rfl (by kernel_rfl)) ?_
       refine q_ 51 (fun _ c1 => oL (v := .int .i64 ((ix p0 s133.2.2).Kind)) ((hr_p0.old c1).cell0 (h156 (by rw [h157] <;> rfl)).1 (h156 (by rw [h157] <;> rfl)).2 rfl)) ?_
       refine qa 3 ((7, .bool _) :: (53, .bool _) :: (52, .bool _) :: _) rfl ?_
       exact leaf_q (sub_out 10 _ rfl (by kernel_rfl) ⟨(congrArg Value.bool (by rw [h157] <;> rfl)), trivial⟩)
     refine xm_of_then ?_
     refine xm_inN ?_
     exact xm_lnext () sq (sh [])
    ·refine cm_skip ?_
     refine xm_inN ?_
     exact xm_lnext () sq (sh [])
   intro s146 u147
   refine cm_region ?_
   refine la 1 ((13, .int .i64 _) :: _) rfl ?_
   refine lm_ck (fun h158 => ?_)
   refine v_ 14 (fun _ _ => op_add rfl rfl h158) ?_
   refine la 1 ((8, .int .i64 _) :: _) rfl ?_
   refine lm_nil ?_
   exact xm_lnext () sq (sh [])
  ·refine cm_exit ?_
   refine xm_thenE ?_
   refine xm_lexit ?_
   refine xm_here ?_
   exact xm_lnext () sq (sh [])
 intro s81 u82
 refine sr ?_
 refine la 4 ((5, .bool _) :: (4, .int .i64 _) :: (55, .bool _) :: (54, .int .i64 _) :: _) rfl ?_
 refine nn ?_
 refine cm_ret ?_
 exact xm_retTT rfl (by kernel_rfl) (show _ = Value.int .i64 _ from rfl) (by kernel_rfl) (show _ = Value.bool _ from rfl) fun w1 c1 => ⟨(), rfl, hsub [] (by kernel_rfl) rfl w1 c1⟩
/-- recyclingref54.Credited -/
def m_recyclingref54_Credited (N : Nat) (p0 : (List ApiItem)) (p1 : Int) : Option (Int) :=
 (andThen
  (loopM (fun (s97 : Int × Int) =>
   (if s97.2 < (List.length p0 : Int) then
    (andThen
     (ck ((0 : Int) ≤ s97.2 ∧ s97.2 < (List.length p0 : Int)) (
      ck (decide ((ix p0 s97.2).Ref = p1) = true → (0 : Int) ≤ s97.2 ∧ s97.2 < (List.length p0 : Int)) (
       (if ((decide ((ix p0 s97.2).Ref = p1)) && (decide ((ix p0 s97.2).Kind = 4))) = true then
        ck ((0 : Int) ≤ s97.2 ∧ s97.2 < (List.length p0 : Int)) (
         ck (I64 (s97.1 - ((ix p0 s97.2).Amount))) (
          some (.next (s97.1 - ((ix p0 s97.2).Amount)))))
       else
        some (.next s97.1)))))
    fun (s106 : Int) =>
     ck (I64 (s97.2 + (1 : Int))) (
      some (.next (s106, (s97.2 + (1 : Int))))))
   else
    some (.done (.next s97.1)))) N ((0 : Int), (0 : Int)))
 fun (s59 : Int) =>
  some (s59))
set_option maxRecDepth 20000 in
theorem m_recyclingref54_Credited_ok (N : Nat) (w0 : World) (p0 : (List ApiItem)) (p1 : Int) (A_p0 : Option Addr) (n_p0 c_p0 : Nat) (hr_p0 : RdE w0 5 encApiItem A_p0 p0) (hz_p0 : SW A_p0 n_p0 c_p0 (List.length p0)) (r : Int) (hr : m_recyclingref54_Credited N p0 p1 = some r) :
  Ret Tryz.prog 54 [.slice A_p0 n_p0 c_p0, .int .i64 p1] w0 (fun (r : Int) (_u : Unit) => .int .i64 r) (fun (_r : Int) (_u : Unit) => []) r := by
 refine calls_v (n := 36) r hr Tryz.func54 ?_
 unfold m_recyclingref54_Credited
 refine sr ?_
 refine la 1 ((4, .int .i64 _) :: _) rfl ?_
 refine nn ?_
 refine sr ?_
 refine la 1 ((5, .int .i64 _) :: _) rfl ?_
 refine nn ?_
 refine cm_join (σ := Int) (ξ := Unit) (fun s59 u60 => [(5, .int .i64 s59)]) (fun s59 u60 => []) ?_ ?_
 ·refine sr ?_
  refine la 1 ((6, .int .i64 _) :: _) rfl ?_
  refine nn ?_
  refine cm_block ?_
  refine cm_loop (σ := Int × Int) (ξ := Unit) (fun s97 u98 => [(0, .slice A_p0 n_p0 c_p0), (1, .int .i64 p1), (5, .int .i64 s97.1), (6, .int .i64 s97.2)]) (fun s97 u98 => []) () ?_ ?_ ?_
  ·exact sq
  ·exact sh []
  intro s97 u98
  refine cm_seq ?_
  refine sr ?_
  refine la 2 ((8, .slice _ _ _) :: (7, .int .i64 _) :: _) rfl ?_
  refine v_ 9 (fun _ _ => op_lenN rfl (by kernel_rfl) hz_p0.2.2) ?_
  refine la 1 ((10, .bool _) :: _) rfl ?_
  refine nn ?_
  refine cm_cond (by kernel_rfl) rfl (fun h99 => ?_) (fun h99 => ?_)
  ·refine sk ?_
   refine cm_join (σ := Int) (ξ := Unit) (fun s106 u107 => [(0, .slice A_p0 n_p0 c_p0), (1, .int .i64 p1), (5, .int .i64 s106), (6, .int .i64 s97.2)]) (fun s106 u107 => []) ?_ ?_
   ·refine cm_block ?_
    refine cm_seq ?_
    refine cm_ck (fun h108 => ?_)
    refine cm_ck (fun h109 => ?_)
    refine cm_cutE [(27, .bool ((decide ((ix p0 s97.2).Ref = p1)) && (decide ((ix p0 s97.2).Kind = 4))))] ?_ ?_
    ·refine qa 2 ((14, .int .i64 _) :: (13, .slice _ _ _) :: _) rfl ?_
     refine q_ 15 (fun _ c1 => oI 5 rfl rfl ((hr_p0.old c1).addr h108.1 h108.2) hz_p0.2.2 h108) ?_
     refine q_ 16 (fun _ _ => op_field (m := 1) rfl (by kernel_rfl)) ?_
     refine q_ 17 (fun _ c1 => oL (v := .int .i64 ((ix p0 s97.2).Ref)) ((hr_p0.old c1).cell (j := 1) h108.1 h108.2 rfl)) ?_
     refine qa 1 ((18, .int .i64 _) :: _) rfl ?_
     refine qd 19 (fun _ _ => op_eql rfl rfl) (fun h110 => ?_) (fun h110 => ?_)
     ·refine qa 3 ((22, .int .i64 _) :: (21, .slice _ _ _) :: (20, .bool true) :: _) rfl ?_
      refine q_ 23 (fun _ c1 => oI 5 rfl rfl ((hr_p0.old c1).addr (h109 (by rw [decide_eq_true h110] <;> rfl)).1 (h109 (by rw [decide_eq_true h110] <;> rfl)).2) hz_p0.2.2 (h109 (by rw [decide_eq_true h110] <;> rfl))) ?_
      refine q_ 24 (fun _ _ => op_field0 rfl (by kernel_rfl)) ?_
      refine q_ 25 (fun _ c1 => oL (v := .int .i64 ((ix p0 s97.2).Kind)) ((hr_p0.old c1).cell0 (h109 (by rw [decide_eq_true h110] <;> rfl)).1 (h109 (by rw [decide_eq_true h110] <;> rfl)).2 rfl)) ?_
      refine qa 2 ((27, .bool _) :: (26, .bool _) :: _) rfl ?_
      exact leaf_q (sub_out 15 _ rfl (by kernel_rfl) ⟨(congrArg Value.bool (by rw [decide_eq_true h110] <;> rfl)), trivial⟩)
     ·refine qa 8 ((27, .bool false) :: (26, undef) :: (25, undef) :: (24, undef) :: (23, undef) :: (22, undef) :: (21, undef) :: (20, .bool false) :: _) rfl ?_
      exact leaf_q (sub_out 15 _ rfl (by kernel_rfl) ⟨(congrArg Value.bool (by rw [decide_eq_false h110] <;> rfl)), trivial⟩)
    refine xm_next ?_
    refine cm_condB (by kernel_rfl) rfl (fun h111 => ?_) (fun h111 => ?_)
    ·refine cm_region ?_
     refine la 3 ((30, .int .i64 _) :: (29, .slice _ _ _) :: (28, .int .i64 _) :: _) rfl ?_
     refine lm_ck (fun h112 => ?_)
     refine v_ 31 (fun _ c1 => oI 5 rfl rfl ((hr_p0.old c1).addr h112.1 h112.2) hz_p0.2.2 h112) ?_
     refine v_ 32 (fun _ _ => op_field (m := 4) rfl (by kernel_rfl)) ?_
     refine v_ 33 (fun _ c1 => oL (v := .int .i64 ((ix p0 s97.2).Amount)) ((hr_p0.old c1).cell (j := 4) h112.1 h112.2 rfl)) ?_
     refine lm_ck (fun h113 => ?_)
     refine v_ 34 (fun _ _ => op_sub rfl rfl h113) ?_
     refine la 1 ((5, .int .i64 _) :: _) rfl ?_
     refine lm_nil ?_
     refine xm_inN ?_
     exact xm_lnext () sq (sh [])
    ·refine cm_skip ?_
     refine xm_inN ?_
     exact xm_lnext () sq (sh [])
   intro s106 u107
   refine cm_region ?_
   refine la 1 ((11, .int .i64 _) :: _) rfl ?_
   refine lm_ck (fun h114 => ?_)
   refine v_ 12 (fun _ _ => op_add rfl rfl h114) ?_
   refine la 1 ((6, .int .i64 _) :: _) rfl ?_
   refine lm_nil ?_
   exact xm_lnext () sq (sh [])
  ·refine cm_exit ?_
   refine xm_thenE ?_
   refine xm_lexit ?_
   refine xm_here ?_
   exact xm_lnext () sq (sh [])
 intro s59 u60
 refine sr ?_
 refine la 2 ((4, .int .i64 _) :: (35, .int .i64 _) :: _) rfl ?_
 refine nn ?_
 refine cm_ret ?_
 exact xm_retT rfl (by kernel_rfl) (show _ = Value.int .i64 _ from rfl) fun w1 c1 => ⟨(), rfl, hsub [] (by kernel_rfl) rfl w1 c1⟩
/-- recyclingref54.Credit -/
def m_recyclingref54_Credit (N : Nat) (p0 : ApiBill) (p1 : Int) (p2 : Int) : Option (ApiBill × Int) :=
 (if 512 ≤ (List.length p0.Items : Int) then
  some (((ApiBill.mk 0 0 (ApiWindow.mk 0 0) ([] : List ApiItem) 0), (8 : Int)))
 else
  Option.bind (m_recyclingref54_money N p0.Total) fun r8 => (if (!r8) = true then
   some (((ApiBill.mk 0 0 (ApiWindow.mk 0 0) ([] : List ApiItem) 0), (1 : Int)))
  else
   (andThen
    (loopM (fun (s53 : Int) =>
     (if s53 < (List.length p0.Items : Int) then
      ck ((0 : Int) ≤ s53 ∧ s53 < (List.length p0.Items : Int)) (
       Option.bind (m_recyclingref54_money N ((ix p0.Items s53).Amount)) fun r57 => (if (!r57) = true then
        some (.done (.done (((ApiBill.mk 0 0 (ApiWindow.mk 0 0) ([] : List ApiItem) 0), (1 : Int)))))
       else
        ck (I64 (s53 + (1 : Int))) (
         some (.next (s53 + (1 : Int))))))
     else
      some (.done (.next ())))) N (0 : Int))
   fun (_s35 : Unit) =>
    (if ((decide (p2 < 1)) || (decide (1000000000000 < p2))) = true then
     some (((ApiBill.mk 0 0 (ApiWindow.mk 0 0) ([] : List ApiItem) 0), (1 : Int)))
    else
     Option.bind (m_recyclingref54_Charged N p0.Items p1) fun r63 => (if (!r63.2) = true then
      some (((ApiBill.mk 0 0 (ApiWindow.mk 0 0) ([] : List ApiItem) 0), (7 : Int)))
     else
      Option.bind (m_recyclingref54_Credited N p0.Items p1) fun r66 => ck (I64 (r66 + p2)) (
       (if r63.1 < (r66 + p2) then
        some (((ApiBill.mk 0 0 (ApiWindow.mk 0 0) ([] : List ApiItem) 0), (1 : Int)))
       else
        ck ((List.length ([] : List ApiItem) + List.length p0.Items) * 40 ≤ 140737488355328) (
         ck (I64 (-p2)) (
          ck (I64 (-p2)) (
           ck ((List.length (([] : List ApiItem) ++ p0.Items) + List.length ([(ApiItem.mk 4 p1 1 (-p2) (-p2))])) * 40 ≤ 140737488355328) (
            ck (I64 (p0.Total - p2)) (
             some (((ApiBill.mk p0.ID p0.Household p0.When ((([] : List ApiItem) ++ p0.Items) ++ ([(ApiItem.mk 4 p1 1 (-p2) (-p2))])) (p0.Total - p2)), (0 : Int)))))))))))))))
set_option maxHeartbeats 2000000 in
set_option maxRecDepth 20000 in
theorem m_recyclingref54_Credit_ok (N : Nat) (w0 : World) (p0 : ApiBill) (p1 : Int) (p2 : Int) (A_p01 : Option Addr) (n_p01 c_p01 : Nat) (hr_p01 : RdE w0 5 encApiItem A_p01 p0.Items) (hz_p01 : SW A_p01 n_p01 c_p01 (List.length p0.Items)) (r : ApiBill × Int) (hr : m_recyclingref54_Credit N p0 p1 p2 = some r) :
  Ret Tryz.prog 20 [.agg #[.int .i64 p0.ID, .int .i64 p0.Household, .int .i64 p0.When.From, .int .i64 p0.When.To, .slice A_p01 n_p01 c_p01, .int .i64 p0.Total], .int .i64 p1, .int .i64 p2] w0 (fun (r : ApiBill × Int) (u : (Option Addr) × Nat × Nat) => .tuple #[.agg #[.int .i64 r.1.ID, .int .i64 r.1.Household, .int .i64 r.1.When.From, .int .i64 r.1.When.To, .slice u.1 u.2.1 u.2.2, .int .i64 r.1.Total], .int .i64 r.2]) (fun (r : ApiBill × Int) (u : (Option Addr) × Nat × Nat) => [ownE 66 5 encApiItem u.1 u.2.1 u.2.2 r.1.Items]) r := by
 refine calls_v (n := 82) r hr Tryz.func20 ?_
 unfold m_recyclingref54_Credit
 refine sr ?_
 refine lm_box 3 [.int .i64 _, .int .i64 _, .int .i64 _, .int .i64 _, .slice _ _ _, .int .i64 _] (by kernel_rfl) rfl ?_
 intro b5
 refine lm_alloc 6 [.int .i64 0, .int .i64 0, .int .i64 0, .int .i64 0, .slice none 0 0, .int .i64 0] (v := .agg #[.int .i64 0, .int .i64 0, .int .i64 0, .int .i64 0, .slice none 0 0, .int .i64 0]) (by kernel_rfl) (by kernel_rfl) rfl ?_
 intro b6
 refine la 1 ((7, .int .i64 _) :: _) rfl ?_
 refine nn ?_
 refine cm_seq ?_
 refine sr ?_
 refine v_ 11 (fun _ _ => oF 4 4 rfl) ?_
 refine v_ 12 (fun _ c1 => oL (c1.cell 1 (u := .slice _ _ _) rfl rfl)) ?_
 refine v_ 13 (fun _ _ => op_lenN rfl (by kernel_rfl) hz_p01.2.2) ?_
 refine la 1 ((14, .bool _) :: _) rfl ?_
 refine nn ?_
 refine cm_cond (by kernel_rfl) rfl (fun h7 => ?_) (fun h7 => ?_)
 ·refine sr ?_
  refine v_ 15 (fun _ _ => op_build (z := [.int .i64 0, .int .i64 0, .int .i64 0, .int .i64 0, .slice none 0 0, .int .i64 0]) (tab := [(0, 1), (1, 1), (2, 2), (4, 1), (5, 1)]) (cs := [.int .i64 _, .int .i64 _, .int .i64 _, .int .i64 _, .slice _ _ _, .int .i64 _]) [] (by kernel_rfl) (by kernel_rfl) fillOk_nil rfl) ?_
  refine lm_storeA 0 [.int .i64 _, .int .i64 _, .int .i64 _, .int .i64 _, .slice _ _ _, .int .i64 _] [_, _, _, _, _, _] (H' := [blkE _ _ [_, _, _, _, _, _], _]) (by kernel_rfl) rfl rfl (by kernel_rfl) rfl rfl (by kernel_rfl) rfl rfl ?_
  refine la 1 ((7, .int .i64 _) :: _) rfl ?_
  refine nn ?_
  refine cm_ret ?_
  refine xm_thenR ?_
  refine xm_nilrow 66 5 encApiItem ?_
  exact xm_retCT rfl (by kernel_rfl) (show _ = Value.pointer (some ⟨_, 0, none⟩) from rfl) (by kernel_rfl) (fun w1 c1 => c1.cells 1 (ds := [.int .i64 _, .int .i64 _, .int .i64 _, .int .i64 _, .slice _ _ _, .int .i64 _]) rfl rfl) (by kernel_rfl) (show _ = Value.int .i64 _ from rfl) fun w1 c1 => ⟨(none, 0, 0), rfl, hsub [0] (by kernel_rfl) rfl w1 c1⟩
 ·refine sk ?_
  refine cm_seq ?_
  refine sr ?_
  refine v_ 16 (fun _ _ => oF 5 5 rfl) ?_
  refine v_ 17 (fun _ c1 => oL (c1.cell 1 (u := .int .i64 _) rfl rfl)) ?_
  refine lm_call 18 (V := (fun (r : Bool) (_u : Unit) => .bool r)) (HR := (fun (_r : Bool) (_u : Unit) => [])) (by kernel_rfl) (fun w1 => op_call (by kernel_rfl)) (fun r1 hr1 w1 c1 => m_recyclingref54_money_ok N w1 p0.Total  r1 hr1) ?_
  intro r8 u9
  refine la 1 ((19, .bool _) :: _) rfl ?_
  refine nn ?_
  refine cm_condB (by kernel_rfl) rfl (fun h10 => ?_) (fun h10 => ?_)
  ·refine sr ?_
   refine v_ 20 (fun _ _ => op_build (z := [.int .i64 0, .int .i64 0, .int .i64 0, .int .i64 0, .slice none 0 0, .int .i64 0]) (tab := [(0, 1), (1, 1), (2, 2), (4, 1), (5, 1)]) (cs := [.int .i64 _, .int .i64 _, .int .i64 _, .int .i64 _, .slice _ _ _, .int .i64 _]) [] (by kernel_rfl) (by kernel_rfl) fillOk_nil rfl) ?_
   refine lm_storeA 0 [.int .i64 _, .int .i64 _, .int .i64 _, .int .i64 _, .slice _ _ _, .int .i64 _] [_, _, _, _, _, _] (H' := [blkE _ _ [_, _, _, _, _, _], _]) (by kernel_rfl) rfl rfl (by kernel_rfl) rfl rfl (by kernel_rfl) rfl rfl ?_
   refine la 1 ((7, .int .i64 _) :: _) rfl ?_
   refine nn ?_
   refine cm_ret ?_
   refine xm_thenR ?_
   refine xm_nilrow 66 5 encApiItem ?_
   exact xm_retCT rfl (by kernel_rfl) (show _ = Value.pointer (some ⟨_, 0, none⟩) from rfl) (by kernel_rfl) (fun w1 c1 => c1.cells 1 (ds := [.int .i64 _, .int .i64 _, .int .i64 _, .int .i64 _, .slice _ _ _, .int .i64 _]) rfl rfl) (by kernel_rfl) (show _ = Value.int .i64 _ from rfl) fun w1 c1 => ⟨(none, 0, 0), rfl, hsub [0] (by kernel_rfl) rfl w1 c1⟩
  ·refine sk ?_
   refine cm_join (σ := Unit) (ξ := Unit) (fun s35 u36 => [(1, .int .i64 p1), (2, .int .i64 p2), (3, .pointer (some ⟨b5, 0, none⟩)), (6, .pointer (some ⟨b6, 0, none⟩))]) (fun s35 u36 => [blkE b5 39 [.int .i64 p0.ID, .int .i64 p0.Household, .int .i64 p0.When.From, .int .i64 p0.When.To, .slice A_p01 n_p01 c_p01, .int .i64 p0.Total], blkE b6 39 [.int .i64 0, .int .i64 0, .int .i64 0, .int .i64 0, .slice none 0 0, .int .i64 0]]) ?_ ?_
   ·refine sr ?_
    refine la 1 ((8, .int .i64 _) :: _) rfl ?_
    refine nn ?_
    refine cm_block ?_
    refine cm_loop (σ := Int) (ξ := Unit) (fun s53 u54 => [(1, .int .i64 p1), (2, .int .i64 p2), (3, .pointer (some ⟨b5, 0, none⟩)), (6, .pointer (some ⟨b6, 0, none⟩)), (8, .int .i64 s53)]) (fun s53 u54 => [blkE b5 39 [.int .i64 p0.ID, .int .i64 p0.Household, .int .i64 p0.When.From, .int .i64 p0.When.To, .slice A_p01 n_p01 c_p01, .int .i64 p0.Total], blkE b6 39 [.int .i64 0, .int .i64 0, .int .i64 0, .int .i64 0, .slice none 0 0, .int .i64 0]]) () ?_ ?_ ?_
    ·exact sq
    ·exact sh [1, 0]
    intro s53 u54
    refine cm_seq ?_
    refine sr ?_
    refine la 1 ((21, .int .i64 _) :: _) rfl ?_
    refine v_ 22 (fun _ _ => oF 4 4 rfl) ?_
    refine v_ 23 (fun _ c1 => oL (c1.cell 0 (u := .slice _ _ _) rfl rfl)) ?_
    refine v_ 24 (fun _ _ => op_lenN rfl (by kernel_rfl) hz_p01.2.2) ?_
    refine la 1 ((25, .bool _) :: _) rfl ?_
    refine nn ?_
    refine cm_cond (by kernel_rfl) rfl (fun h55 => ?_) (fun h55 => ?_)
    ·refine sk ?_
     refine cm_seq ?_
     refine cm_block ?_
     refine sr ?_
     refine v_ 28 (fun _ _ => oF 4 4 rfl) ?_
     refine v_ 29 (fun _ c1 => oL (c1.cell 0 (u := .slice _ _ _) rfl rfl)) ?_
     refine la 1 ((30, .int .i64 _) :: _) rfl ?_
     refine lm_ck (fun h56 => ?_)
     refine v_ 31 (fun _ c1 => oI 5 rfl rfl ((hr_p01.old c1).addr h56.1 h56.2) hz_p01.2.2 h56) ?_
     refine v_ 32 (fun _ _ => op_field (m := 4) rfl (by kernel_rfl)) ?_
     refine v_ 33 (fun _ c1 => oL (v := .int .i64 ((ix p0.Items s53).Amount)) ((hr_p01.old c1).cell (j := 4) h56.1 h56.2 rfl)) ?_
     refine lm_call 34 (V := (fun (r : Bool) (_u : Unit) => .bool r)) (HR := (fun (_r : Bool) (_u : Unit) => [])) (by kernel_rfl) (fun w1 => op_call (by kernel_rfl)) (fun r1 hr1 w1 c1 => m_recyclingref54_money_ok N w1 ((ix p0.Items s53).Amount)  r1 hr1) ?_
     intro r57 u58
     refine la 1 ((35, .bool _) :: _) rfl ?_
     refine nn ?_
     refine cm_condB (by kernel_rfl) rfl (fun h59 => ?_) (fun h59 => ?_)
     ·refine sr ?_
      refine v_ 36 (fun _ _ => op_build (z := [.int .i64 0, .int .i64 0, .int .i64 0, .int .i64 0, .slice none 0 0, .int .i64 0]) (tab := [(0, 1), (1, 1), (2, 2), (4, 1), (5, 1)]) (cs := [.int .i64 _, .int .i64 _, .int .i64 _, .int .i64 _, .slice _ _ _, .int .i64 _]) [] (by kernel_rfl) (by kernel_rfl) fillOk_nil rfl) ?_
      refine lm_storeA 1 [.int .i64 _, .int .i64 _, .int .i64 _, .int .i64 _, .slice _ _ _, .int .i64 _] [_, _, _, _, _, _] (H' := [_, blkE _ _ [_, _, _, _, _, _]]) (by kernel_rfl) rfl rfl (by kernel_rfl) rfl rfl (by kernel_rfl) rfl rfl ?_
      refine la 1 ((7, .int .i64 _) :: _) rfl ?_
      refine nn ?_
      refine cm_ret ?_
      refine xm_inR ?_
      refine xm_thenR ?_
      refine xm_lret ?_
      refine xm_inR ?_
      refine xm_lret ?_
      refine xm_nilrow 66 5 encApiItem ?_
      exact xm_retCT rfl (by kernel_rfl) (show _ = Value.pointer (some ⟨_, 0, none⟩) from rfl) (by kernel_rfl) (fun w1 c1 => c1.cells 2 (ds := [.int .i64 _, .int .i64 _, .int .i64 _, .int .i64 _, .slice _ _ _, .int .i64 _]) rfl rfl) (by kernel_rfl) (show _ = Value.int .i64 _ from rfl) fun w1 c1 => ⟨(none, 0, 0), rfl, hsub [0] (by kernel_rfl) rfl w1 c1⟩
     ·refine cm_skip ?_
      refine xm_inN ?_
      refine xm_next ?_
      refine cm_region ?_
      refine la 1 ((26, .int .i64 _) :: _) rfl ?_
      refine lm_ck (fun h60 => ?_)
      refine v_ 27 (fun _ _ => op_add rfl rfl h60) ?_
      refine la 1 ((8, .int .i64 _) :: _) rfl ?_
      refine lm_nil ?_
      exact xm_lnext () sq (sh [0, 1])
    ·refine cm_exit ?_
     refine xm_thenE ?_
     refine xm_lexit ?_
     refine xm_here ?_
     exact xm_lnext () sq (sh [0, 1])
   intro s35 u36
   refine cm_seq ?_
   refine cm_seq ?_
   refine cm_cutE [(42, .bool ((decide (p2 < 1)) || (decide (1000000000000 < p2))))] ?_ ?_
   ·refine qa 1 ((37, .int .i64 _) :: _) rfl ?_
    refine qd 38 (fun _ _ => op_lss rfl rfl) (fun h61 => ?_) (fun h61 => ?_)
    ·refine qa 4 ((42, .bool true) :: (41, undef) :: (40, undef) :: (39, .bool true) :: _) rfl ?_
     exact leaf_q (sub_out 6 _ rfl (by kernel_rfl) ⟨(congrArg Value.bool (by rw [decide_eq_true h61] <;> rfl)), trivial⟩)
    ·refine qa 4 ((42, .bool _) :: (41, .bool _) :: (40, .int .i64 _) :: (39, .bool false) :: _) rfl ?_
     exact leaf_q (sub_out 6 _ rfl (by kernel_rfl) ⟨(congrArg Value.bool (by rw [decide_eq_false h61] <;> rfl)), trivial⟩)
   refine xm_next ?_
   refine cm_condB (by kernel_rfl) rfl (fun h62 => ?_) (fun h62 => ?_)
   ·refine sr ?_
    refine v_ 43 (fun _ _ => op_build (z := [.int .i64 0, .int .i64 0, .int .i64 0, .int .i64 0, .slice none 0 0, .int .i64 0]) (tab := [(0, 1), (1, 1), (2, 2), (4, 1), (5, 1)]) (cs := [.int .i64 _, .int .i64 _, .int .i64 _, .int .i64 _, .slice _ _ _, .int .i64 _]) [] (by kernel_rfl) (by kernel_rfl) fillOk_nil rfl) ?_
    refine lm_storeA 1 [.int .i64 _, .int .i64 _, .int .i64 _, .int .i64 _, .slice _ _ _, .int .i64 _] [_, _, _, _, _, _] (H' := [_, blkE _ _ [_, _, _, _, _, _]]) (by kernel_rfl) rfl rfl (by kernel_rfl) rfl rfl (by kernel_rfl) rfl rfl ?_
    refine la 1 ((7, .int .i64 _) :: _) rfl ?_
    refine nn ?_
    refine cm_ret ?_
    refine xm_thenR ?_
    refine xm_nilrow 66 5 encApiItem ?_
    exact xm_retCT rfl (by kernel_rfl) (show _ = Value.pointer (some ⟨_, 0, none⟩) from rfl) (by kernel_rfl) (fun w1 c1 => c1.cells 2 (ds := [.int .i64 _, .int .i64 _, .int .i64 _, .int .i64 _, .slice _ _ _, .int .i64 _]) rfl rfl) (by kernel_rfl) (show _ = Value.int .i64 _ from rfl) fun w1 c1 => ⟨(none, 0, 0), rfl, hsub [0] (by kernel_rfl) rfl w1 c1⟩
   ·refine sk ?_
    refine sr ?_
    refine v_ 45 (fun _ _ => oF 4 4 rfl) ?_
    refine v_ 46 (fun _ c1 => oL (c1.cell 0 (u := .slice _ _ _) rfl rfl)) ?_
    refine la 1 ((47, .int .i64 _) :: _) rfl ?_
    refine lm_call 48 (V := (fun (r : Int × Bool) (_u : Unit) => .tuple #[.int .i64 r.1, .bool r.2])) (HR := (fun (_r : Int × Bool) (_u : Unit) => [])) (by kernel_rfl) (fun w1 => op_call (by kernel_rfl)) (fun r1 hr1 w1 c1 => m_recyclingref54_Charged_ok N w1 p0.Items p1 A_p01 n_p01 c_p01 (hr_p01.old c1) hz_p01 r1 hr1) ?_
    intro r63 u64
    refine la 5 ((10, .bool _) :: (9, .int .i64 _) :: (50, .bool _) :: (49, .int .i64 _) :: (44, .tuple _) :: _) rfl ?_
    refine nn ?_
    refine cm_seq ?_
    refine sr ?_
    refine la 2 ((52, .bool _) :: (51, .bool _) :: _) rfl ?_
    refine nn ?_
    refine cm_condB (by kernel_rfl) rfl (fun h65 => ?_) (fun h65 => ?_)
    ·refine sr ?_
     refine v_ 53 (fun _ _ => op_build (z := [.int .i64 0, .int .i64 0, .int .i64 0, .int .i64 0, .slice none 0 0, .int .i64 0]) (tab := [(0, 1), (1, 1), (2, 2), (4, 1), (5, 1)]) (cs := [.int .i64 _, .int .i64 _, .int .i64 _, .int .i64 _, .slice _ _ _, .int .i64 _]) [] (by kernel_rfl) (by kernel_rfl) fillOk_nil rfl) ?_
     refine lm_storeA 1 [.int .i64 _, .int .i64 _, .int .i64 _, .int .i64 _, .slice _ _ _, .int .i64 _] [_, _, _, _, _, _] (H' := [_, blkE _ _ [_, _, _, _, _, _]]) (by kernel_rfl) rfl rfl (by kernel_rfl) rfl rfl (by kernel_rfl) rfl rfl ?_
     refine la 1 ((7, .int .i64 _) :: _) rfl ?_
     refine nn ?_
     refine cm_ret ?_
     refine xm_thenR ?_
     refine xm_nilrow 66 5 encApiItem ?_
     exact xm_retCT rfl (by kernel_rfl) (show _ = Value.pointer (some ⟨_, 0, none⟩) from rfl) (by kernel_rfl) (fun w1 c1 => c1.cells 2 (ds := [.int .i64 _, .int .i64 _, .int .i64 _, .int .i64 _, .slice _ _ _, .int .i64 _]) rfl rfl) (by kernel_rfl) (show _ = Value.int .i64 _ from rfl) fun w1 c1 => ⟨(none, 0, 0), rfl, hsub [0] (by kernel_rfl) rfl w1 c1⟩
    ·refine sk ?_
     refine cm_seq ?_
     refine sr ?_
     refine v_ 54 (fun _ _ => oF 4 4 rfl) ?_
     refine v_ 55 (fun _ c1 => oL (c1.cell 0 (u := .slice _ _ _) rfl rfl)) ?_
     refine la 1 ((56, .int .i64 _) :: _) rfl ?_
     refine lm_call 57 (V := (fun (r : Int) (_u : Unit) => .int .i64 r)) (HR := (fun (_r : Int) (_u : Unit) => [])) (by kernel_rfl) (fun w1 => op_call (by kernel_rfl)) (fun r1 hr1 w1 c1 => m_recyclingref54_Credited_ok N w1 p0.Items p1 A_p01 n_p01 c_p01 (hr_p01.old c1) hz_p01 r1 hr1) ?_
     intro r66 u67
     refine la 1 ((58, .int .i64 _) :: _) rfl ?_
     refine lm_ck (fun h68 => ?_)
     refine v_ 59 (fun _ _ => op_add rfl rfl h68) ?_
     refine la 2 ((61, .bool _) :: (60, .int .i64 _) :: _) rfl ?_
     refine nn ?_
     refine cm_cond (by kernel_rfl) rfl (fun h69 => ?_) (fun h69 => ?_)
     ·refine sr ?_
      refine v_ 62 (fun _ _ => op_build (z := [.int .i64 0, .int .i64 0, .int .i64 0, .int .i64 0, .slice none 0 0, .int .i64 0]) (tab := [(0, 1), (1, 1), (2, 2), (4, 1), (5, 1)]) (cs := [.int .i64 _, .int .i64 _, .int .i64 _, .int .i64 _, .slice _ _ _, .int .i64 _]) [] (by kernel_rfl) (by kernel_rfl) fillOk_nil rfl) ?_
      refine lm_storeA 1 [.int .i64 _, .int .i64 _, .int .i64 _, .int .i64 _, .slice _ _ _, .int .i64 _] [_, _, _, _, _, _] (H' := [_, blkE _ _ [_, _, _, _, _, _]]) (by kernel_rfl) rfl rfl (by kernel_rfl) rfl rfl (by kernel_rfl) rfl rfl ?_
      refine la 1 ((7, .int .i64 _) :: _) rfl ?_
      refine nn ?_
      refine cm_ret ?_
      refine xm_thenR ?_
      refine xm_nilrow 66 5 encApiItem ?_
      exact xm_retCT rfl (by kernel_rfl) (show _ = Value.pointer (some ⟨_, 0, none⟩) from rfl) (by kernel_rfl) (fun w1 c1 => c1.cells 2 (ds := [.int .i64 _, .int .i64 _, .int .i64 _, .int .i64 _, .slice _ _ _, .int .i64 _]) rfl rfl) (by kernel_rfl) (show _ = Value.int .i64 _ from rfl) fun w1 c1 => ⟨(none, 0, 0), rfl, hsub [0] (by kernel_rfl) rfl w1 c1⟩
     ·refine sk ?_
      refine sr ?_
      refine lm_slice0 63 (el := 66) (sz := 5) (bytes := 40) (enc := encApiItem) (by kernel_rfl) (by kernel_rfl) ?_
      intro A70 n71 k72 h73
      refine v_ 64 (fun _ _ => oF 4 4 rfl) ?_
      refine v_ 65 (fun _ c1 => oL (c1.cell 1 (u := .slice _ _ _) rfl rfl)) ?_
      refine lm_ck (fun h74 => ?_)
      refine lm_append 66 0 (el := 66) (sz := 5) (bytes := 40) (enc := encApiItem) (l2 := p0.Items) (by kernel_rfl) (by kernel_rfl) encApiItem_len encApiItem_one rfl rfl rfl (fun w1 c1 => hz_p01) (fun w1 c1 => (hr_p01.old c1)) h74 ?_ (by kernel_rfl)
      intro A75 n76 k77
      refine la 2 ((68, .int .i64 _) :: (67, .int .i64 _) :: _) rfl ?_
      refine lm_ck (fun h78 => ?_)
      refine v_ 69 (fun _ _ => op_neg rfl h78) ?_
      refine la 1 ((70, .int .i64 _) :: _) rfl ?_
      refine lm_ck (fun h79 => ?_)
      refine v_ 71 (fun _ _ => op_neg rfl h79) ?_
      refine v_ 72 (fun _ _ => op_build (z := [.int .i64 0, .int .i64 0, .int .i64 0, .int .i64 0, .int .i64 0]) (tab := [(0, 1), (1, 1), (2, 1), (3, 1), (4, 1)]) (cs := [.int .i64 _, .int .i64 _, .int .i64 _, .int .i64 _, .int .i64 _]) [(0, [.int .i64 _]), (1, [.int .i64 _]), (2, [.int .i64 _]), (3, [.int .i64 _]), (4, [.int .i64 _])] (by kernel_rfl) (by kernel_rfl) (fillOk_cons rfl rfl rfl (fillOk_cons rfl rfl rfl (fillOk_cons rfl rfl rfl (fillOk_cons rfl rfl rfl (fillOk_cons rfl rfl rfl fillOk_nil))))) rfl) ?_
      refine lm_slice1 73 (el := 66) (sz := 5) (bytes := 40) (enc := encApiItem) (ApiItem.mk 4 p1 1 (-p2) (-p2)) (by kernel_rfl) (by kernel_rfl) encApiItem_len rfl (by kernel_rfl) ?_
      intro A80 n81 k82 h83
      refine lm_ck (fun h84 => ?_)
      refine lm_append 74 1 (el := 66) (sz := 5) (bytes := 40) (enc := encApiItem) (l2 := ([(ApiItem.mk 4 p1 1 (-p2) (-p2))])) (by kernel_rfl) (by kernel_rfl) encApiItem_len encApiItem_one rfl rfl rfl (fun w1 c1 => (c1.ownZ 0 rfl)) (fun w1 c1 => (c1.own 0 rfl encApiItem_len)) h84 ?_ (by kernel_rfl)
      intro A85 n86 k87
      refine v_ 75 (fun _ _ => oF 4 4 rfl) ?_
      refine lm_store1 2 (v := .slice _ _ _) (H' := [_, _, blkE _ _ [_, _, _, _, _, _], _]) (by kernel_rfl) rfl rfl (by kernel_rfl) rfl rfl (by kernel_rfl) rfl ?_
      refine nn ?_
      refine sr ?_
      refine v_ 76 (fun _ _ => oF 5 5 rfl) ?_
      refine v_ 77 (fun _ c1 => oL (c1.cell 2 (u := .int .i64 _) rfl rfl)) ?_
      refine la 1 ((78, .int .i64 _) :: _) rfl ?_
      refine lm_ck (fun h88 => ?_)
      refine v_ 79 (fun _ _ => op_sub rfl rfl h88) ?_
      refine v_ 80 (fun _ _ => oF 5 5 rfl) ?_
      refine lm_store1 2 (v := .int .i64 _) (H' := [_, _, blkE _ _ [_, _, _, _, _, _], _]) (by kernel_rfl) rfl rfl (by kernel_rfl) rfl rfl (by kernel_rfl) rfl ?_
      refine nn ?_
      refine sr ?_
      refine v_ 81 (fun _ c1 => oR [.int .i64 _, .int .i64 _, .int .i64 _, .int .i64 _, .slice _ _ _, .int .i64 _] (c1.cells 2 rfl rfl)) ?_
      refine lm_storeA 3 [.int .i64 _, .int .i64 _, .int .i64 _, .int .i64 _, .slice _ _ _, .int .i64 _] [_, _, _, _, _, _] (H' := [_, _, _, blkE _ _ [_, _, _, _, _, _]]) (by kernel_rfl) rfl rfl (by kernel_rfl) rfl rfl (by kernel_rfl) rfl rfl ?_
      refine la 1 ((7, .int .i64 _) :: _) rfl ?_
      refine nn ?_
      refine cm_ret ?_
      exact xm_retCT rfl (by kernel_rfl) (show _ = Value.pointer (some ⟨_, 0, none⟩) from rfl) (by kernel_rfl) (fun w1 c1 => c1.cells 3 (ds := [.int .i64 _, .int .i64 _, .int .i64 _, .int .i64 _, .slice _ _ _, .int .i64 _]) rfl rfl) (by kernel_rfl) (show _ = Value.int .i64 _ from rfl) fun w1 c1 => ⟨(A85, n86, k87), rfl, hsub [1] (by kernel_rfl) rfl w1 c1⟩
end Go.Proofs.YtpbgfdmkebnjgaaGreatDoor
