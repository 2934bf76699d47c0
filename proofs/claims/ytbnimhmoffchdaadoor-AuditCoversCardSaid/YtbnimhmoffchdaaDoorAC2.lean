/- Models of functions, and that the code follows them. Written by deco.py. -/
import Derived.Test.YtbnimhmoffchdaaDoorAC1
namespace Go.Proofs.YtbnimhmoffchdaaDoor
open Go.RowKit
set_option linter.unusedSectionVars false
variable [JF]

/-- slices.Clone -/
def m_slices_Clone (_N : Nat) (p0 : List Int) : Option (List Int) :=
 ck (List.length p0 * 8 ≤ 140737488355328) (some p0)
set_option maxRecDepth 20000 in
theorem m_slices_Clone_ok (N : Nat) (w0 : World) (p0 : List Int) (A_p0 : Option Addr) (n_p0 : Nat) (c_p0 : Nat) (hr_p0 : RdE w0 1 encI A_p0 p0) (hz_p0 : SW A_p0 n_p0 c_p0 (List.length p0)) (r : List Int) (hr : m_slices_Clone N p0 = some r) :
  Ret Tryd.prog 10 [.slice A_p0 n_p0 c_p0] w0 (fun (_r : (List Int)) (u : (Option Addr) × Nat × Nat) => .slice u.1 u.2.1 u.2.2) (fun (r : (List Int)) (u : (Option Addr) × Nat × Nat) => [ownE 3 1 encI u.1 u.2.1 u.2.2 r]) r := by
 refine calls_v (n := 8) r hr Tryd.func10 ?_
 unfold m_slices_Clone
 refine cm_ck fun hlen => ?_
 refine sr ?_
 refine la 1 ((2, .slice _ _ _) :: _) rfl ?_
 refine nn ?_
 refine cm_seq ?_
 refine sr ?_
 refine la 1 ((3, .slice _ _ _) :: _) rfl ?_
 refine v_ 4 (fun _ _ => op_eqNil rfl rfl (by kernel_rfl)) ?_
 refine nn ?_
 by_cases hA : A_p0 = none
 ·refine cm_cond_t (by kernel_rfl) (by show Value.bool (decide (A_p0 = none)) = _; rw [decide_eq_true hA]) ?_
  obtain rfl : p0 = [] := by
   subst hA
   by_cases h0 : 0 < p0.length
   ·have := RdE.addr hr_p0 (i := 0) (Int.le_refl _) (by omega)
    cases this
   ·exact List.eq_nil_of_length_eq_zero (by omega)
  refine sr ?_
  refine la 1 ((2, .slice _ _ _) :: _) rfl ?_
  refine nn ?_
  refine cm_ret ?_
  refine xm_thenR ?_
  refine xm_nilrow 3 1 encI ?_
  exact xm_retT rfl (by kernel_rfl) (show _ = Value.slice _ _ _ from rfl) fun w1 c1 => ⟨(none, 0, 0), rfl, hsub [0] (by kernel_rfl) rfl w1 c1⟩
 ·refine cm_cond_f (by kernel_rfl) (by show Value.bool (decide (A_p0 = none)) = _; rw [decide_eq_false hA]) ?_
  refine sk ?_
  refine sr ?_
  refine lm_slice0 5 (el := 3) (sz := 1) (bytes := 8) (enc := encI) (by kernel_rfl) (by kernel_rfl) ?_
  intro A5 n5 k5 h5
  refine la 1 ((6, .slice _ _ _) :: _) rfl ?_
  refine lm_append 7 0 (el := 3) (sz := 1) (bytes := 8) (enc := encI) (l2 := p0) (by kernel_rfl) (by kernel_rfl) encI_len encI_one rfl rfl rfl (fun w1 c1 => hz_p0) (fun w1 c1 => (hr_p0.old c1)) (by rw [List.length_nil, Nat.zero_add]; exact hlen) ?_ (by kernel_rfl)
  intro A6 n6 k6
  refine la 1 ((2, .slice _ _ _) :: _) rfl ?_
  refine nn ?_
  refine cm_ret ?_
  exact xm_retT rfl (by kernel_rfl) (show _ = Value.slice _ _ _ from rfl) fun w1 c1 => ⟨(A6, n6, k6), rfl, hsub [0] (by kernel_rfl) rfl w1 c1⟩
/-- slices.Equal -/
def m_slices_Equal (N : Nat) (p0 : (List Int)) (p1 : (List Int)) : Option (Bool) :=
 (if (List.length p0 : Int) ≠ (List.length p1 : Int) then
  some (false)
 else
  (andThen
   (loopM (fun (s43 : Int) =>
    (if s43 < (List.length p0 : Int) then
     ck ((0 : Int) ≤ s43 ∧ s43 < (List.length p0 : Int)) (
      ck ((0 : Int) ≤ s43 ∧ s43 < (List.length p1 : Int)) (
       (if (ix p0 s43) ≠ (ix p1 s43) then
        some (.done (.done (false)))
       else
        ck (I64 (s43 + (1 : Int))) (
         some (.next (s43 + (1 : Int)))))))
    else
     some (.done (.next ())))) N (0 : Int))
  fun (_s27 : Unit) =>
   some (true)))
set_option maxRecDepth 20000 in
theorem m_slices_Equal_ok (N : Nat) (w0 : World) (p0 : (List Int)) (p1 : (List Int)) (A_p0 : Option Addr) (n_p0 : Nat) (c_p0 : Nat) (A_p1 : Option Addr) (n_p1 : Nat) (c_p1 : Nat) (hr_p0 : RdE w0 1 encI A_p0 p0) (hz_p0 : SW A_p0 n_p0 c_p0 (List.length p0)) (hr_p1 : RdE w0 1 encI A_p1 p1) (hz_p1 : SW A_p1 n_p1 c_p1 (List.length p1)) (r : Bool) (hr : m_slices_Equal N p0 p1 = some r) :
  Ret Tryd.prog 11 [.slice A_p0 n_p0 c_p0, .slice A_p1 n_p1 c_p1] w0 (fun (r : Bool) (_u : Unit) => .bool r) (fun (_r : Bool) (_u : Unit) => []) r := by
 refine calls_v (n := 26) r hr Tryd.func11 ?_
 unfold m_slices_Equal
 refine sr ?_
 refine la 1 ((4, .bool false) :: _) rfl ?_
 refine nn ?_
 refine cm_seq ?_
 refine sr ?_
 refine la 1 ((6, .slice _ _ _) :: _) rfl ?_
 refine v_ 7 (fun _ _ => op_lenN rfl (by kernel_rfl) hz_p0.2.2) ?_
 refine la 1 ((8, .slice _ _ _) :: _) rfl ?_
 refine v_ 9 (fun _ _ => op_lenN rfl (by kernel_rfl) hz_p1.2.2) ?_
 refine la 1 ((10, .bool _) :: _) rfl ?_
 refine nn ?_
 refine cm_cond (by kernel_rfl) rfl (fun h5 => ?_) (fun h5 => ?_)
 ·refine sr ?_
  refine la 1 ((4, .bool false) :: _) rfl ?_
  refine nn ?_
  refine cm_ret ?_
  refine xm_thenR ?_
  exact xm_retT rfl (by kernel_rfl) (show _ = Value.bool false from rfl) fun w1 c1 => ⟨(), rfl, hsub [] (by kernel_rfl) rfl w1 c1⟩
 ·refine sk ?_
  refine cm_join (σ := Unit) (ξ := Unit) (fun s27 u28 => []) (fun s27 u28 => []) ?_ ?_
  ·refine sr ?_
   refine la 1 ((11, .slice _ _ _) :: _) rfl ?_
   refine v_ 12 (fun _ _ => op_lenN rfl (by kernel_rfl) hz_p0.2.2) ?_
   refine la 1 ((13, .int .i64 _) :: _) rfl ?_
   refine nn ?_
   refine cm_block ?_
   refine cm_loop (σ := Int) (ξ := Unit) (fun s43 u44 => [(0, .slice A_p0 n_p0 c_p0), (1, .slice A_p1 n_p1 c_p1), (12, .int .i64 (List.length p0 : Int)), (13, .int .i64 s43)]) (fun s43 u44 => []) () ?_ ?_ ?_
   ·exact sq
   ·exact sh []
   intro s43 u44
   refine sr ?_
   refine la 1 ((14, .bool _) :: _) rfl ?_
   refine nn ?_
   refine cm_seq ?_
   refine cm_cond (by kernel_rfl) rfl (fun h45 => ?_) (fun h45 => ?_)
   ·refine sk ?_
    refine cm_seq ?_
    refine cm_block ?_
    refine sr ?_
    refine la 2 ((5, .int .i64 _) :: (15, .int .i64 _) :: _) rfl ?_
    refine nn ?_
    refine cm_seq ?_
    refine cm_ck (fun h46 => ?_)
    refine cm_ck (fun h47 => ?_)
    refine cm_drawn [(24, .bool (decide ((ix p0 s43) ≠ (ix p1 s43))))] (by kernel_rfl) (by kernel_rfl) ?_ ?_
    ·refine qa 2 ((17, .int .i64 _) :: (16, .slice _ _ _) :: _) rfl ?_
     refine q_ 18 (fun _ c1 => oI 1 rfl rfl ((hr_p0.old c1).addr h46.1 h46.2) hz_p0.2.2 h46) ?_
     refine q_ 19 (fun _ c1 => oL (v := .int .i64 (ix p0 s43)) ((hr_p0.old c1).cell0 h46.1 h46.2 rfl)) ?_
     refine qa 2 ((21, .int .i64 _) :: (20, .slice _ _ _) :: _) rfl ?_
     refine q_ 22 (fun _ c1 => oI 1 rfl rfl ((hr_p1.old c1).addr h47.1 h47.2) hz_p1.2.2 h47) ?_
     refine q_ 23 (fun _ c1 => oL (v := .int .i64 (ix p1 s43)) ((hr_p1.old c1).cell0 h47.1 h47.2 rfl)) ?_
     refine qa 1 ((24, .bool _) :: _) rfl ?_
     exact lq 9
    refine xm_next ?_
    refine cm_cond (by kernel_rfl) rfl (fun h48 => ?_) (fun h48 => ?_)
    ·refine sr ?_
     refine la 1 ((4, .bool false) :: _) rfl ?_
     refine nn ?_
     refine cm_ret ?_
     refine xm_inR ?_
     refine xm_thenR ?_
     refine xm_lret ?_
     refine xm_inR ?_
     refine xm_lret ?_
     exact xm_retT rfl (by kernel_rfl) (show _ = Value.bool false from rfl) fun w1 c1 => ⟨(), rfl, hsub [] (by kernel_rfl) rfl w1 c1⟩
    ·refine cm_skip ?_
     refine xm_inN ?_
     refine xm_next ?_
     refine cm_region ?_
     refine lm_ck (fun h49 => ?_)
     refine v_ 25 (fun _ _ => op_add rfl rfl h49) ?_
     refine la 1 ((13, .int .i64 _) :: _) rfl ?_
     refine lm_nil ?_
     exact xm_lnext () sq (sh [])
   ·refine cm_exit ?_
    refine xm_thenE ?_
    refine xm_lexit ?_
    refine xm_here ?_
    exact xm_lnext () sub_nil (sh [])
  intro s27 u28
  refine sr ?_
  refine la 1 ((4, .bool true) :: _) rfl ?_
  refine nn ?_
  refine cm_ret ?_
  exact xm_retT rfl (by kernel_rfl) (show _ = Value.bool true from rfl) fun w1 c1 => ⟨(), rfl, hsub [] (by kernel_rfl) rfl w1 c1⟩
/-- fee.Covers -/
def m_fee_Covers (N : Nat) (p0 : (List Int)) (p1 : (List ApiFee)) : Option (Bool) :=
 (if 512 < (List.length p1 : Int) then
  some (false)
 else
  Option.bind (m_slices_Clone N p0) fun r6 => (andThen
   (loopM (fun (s60 : Int) =>
    (if s60 < (List.length p1 : Int) then
     ck ((0 : Int) ≤ s60 ∧ s60 < (List.length p1 : Int)) (
      (if ((((decide ((ix p1 s60).Material < 0)) || (decide ((List.length p0 : Int) ≤ (ix p1 s60).Material))) || (decide ((ix p1 s60).Amount < 0))) || (decide (1000000000000 < (ix p1 s60).Amount))) = true then
       some (.done (.done (false)))
      else
       ck (I64 (s60 + (1 : Int))) (
        some (.next (s60 + (1 : Int))))))
    else
     some (.done (.next ())))) N (0 : Int))
  fun (_s38 : Unit) =>
   ck ((0 : Int) ≤ (List.length p0 : Int) ∧ Int.toNat (List.length p0 : Int) * 8 ≤ 140737488355328) (
    (andThen
     (loopM (fun (s172 : (List Int) × Int) =>
      (if s172.2 < (List.length p1 : Int) then
       ck ((0 : Int) ≤ s172.2 ∧ s172.2 < (List.length p1 : Int)) (
        ck ((0 : Int) ≤ (ix p1 s172.2).Material ∧ (ix p1 s172.2).Material < (List.length s172.1 : Int)) (
         ck (I64 ((ix s172.1 ((ix p1 s172.2).Material)) + ((ix p1 s172.2).Amount))) (
          ck ((0 : Int) ≤ (ix p1 s172.2).Material ∧ (ix p1 s172.2).Material < (List.length s172.1 : Int)) (
           ck (I64 (s172.2 + (1 : Int))) (
            some (.next ((List.set s172.1 (Int.toNat ((ix p1 s172.2).Material)) ((ix s172.1 ((ix p1 s172.2).Material)) + ((ix p1 s172.2).Amount))), (s172.2 + (1 : Int)))))))))
      else
       some (.done (.next s172.1)))) N ((List.replicate (Int.toNat (List.length p0 : Int)) (0 : Int)), (0 : Int)))
    fun (s132 : (List Int)) =>
     Option.bind (m_slices_Equal N r6 s132) fun r191 => some (r191)))))
set_option maxHeartbeats 2000000 in
set_option maxRecDepth 20000 in
theorem m_fee_Covers_ok (N : Nat) (w0 : World) (p0 : (List Int)) (p1 : (List ApiFee)) (A_p0 : Option Addr) (n_p0 : Nat) (c_p0 : Nat) (A_p1 : Option Addr) (n_p1 : Nat) (c_p1 : Nat) (hr_p0 : RdE w0 1 encI A_p0 p0) (hz_p0 : SW A_p0 n_p0 c_p0 (List.length p0)) (hr_p1 : RdE w0 3 encApiFee A_p1 p1) (hz_p1 : SW A_p1 n_p1 c_p1 (List.length p1)) (r : Bool) (hr : m_fee_Covers N p0 p1 = some r) :
  Ret Tryd.prog 6 [.slice A_p0 n_p0 c_p0, .slice A_p1 n_p1 c_p1] w0 (fun (r : Bool) (_u : Unit) => .bool r) (fun (_r : Bool) (_u : Unit) => []) r := by
 refine calls_v (n := 65) r hr Tryd.func6 ?_
 unfold m_fee_Covers
 refine sr ?_
 refine la 1 ((4, .bool false) :: _) rfl ?_
 refine nn ?_
 refine cm_seq ?_
 refine sr ?_
 refine la 1 ((11, .slice _ _ _) :: _) rfl ?_
 refine v_ 12 (fun _ _ => op_lenN rfl (by kernel_rfl) hz_p1.2.2) ?_
 refine la 1 ((13, .bool _) :: _) rfl ?_
 refine nn ?_
 refine cm_cond (by kernel_rfl) rfl (fun h5 => ?_) (fun h5 => ?_)
 ·refine sr ?_
  refine la 1 ((4, .bool false) :: _) rfl ?_
  refine nn ?_
  refine cm_ret ?_
  refine xm_thenR ?_
  exact xm_retT rfl (by kernel_rfl) (show _ = Value.bool false from rfl) fun w1 c1 => ⟨(), rfl, hsub [] (by kernel_rfl) rfl w1 c1⟩
 ·refine sk ?_
  refine sr ?_
  refine la 1 ((14, .slice _ _ _) :: _) rfl ?_
  refine lm_call 15 (V := (fun (_r : (List Int)) (u : (Option Addr) × Nat × Nat) => .slice u.1 u.2.1 u.2.2)) (HR := (fun (r : (List Int)) (u : (Option Addr) × Nat × Nat) => [ownE 3 1 encI u.1 u.2.1 u.2.2 r])) (by kernel_rfl) (fun w1 => op_call (by kernel_rfl)) (fun r1 hr1 w1 c1 => m_slices_Clone_ok N w1 p0 A_p0 n_p0 c_p0 (hr_p0.old c1) hz_p0 r1 hr1) ?_
  intro r6 u7
  refine la 1 ((5, .slice _ _ _) :: _) rfl ?_
  refine nn ?_
  refine cm_join (σ := Unit) (ξ := Unit) (fun s38 u39 => [(0, .slice A_p0 n_p0 c_p0), (1, .slice A_p1 n_p1 c_p1), (5, .slice u7.1 u7.2.1 u7.2.2)]) (fun s38 u39 => [ownE 3 1 encI u7.1 u7.2.1 u7.2.2 r6]) ?_ ?_
  ·refine sr ?_
   refine la 1 ((16, .slice _ _ _) :: _) rfl ?_
   refine v_ 17 (fun _ _ => op_lenN rfl (by kernel_rfl) hz_p1.2.2) ?_
   refine la 1 ((18, .int .i64 _) :: _) rfl ?_
   refine nn ?_
   refine cm_block ?_
   refine cm_loop (σ := Int) (ξ := Unit) (fun s60 u61 => [(0, .slice A_p0 n_p0 c_p0), (1, .slice A_p1 n_p1 c_p1), (5, .slice u7.1 u7.2.1 u7.2.2), (16, .slice A_p1 n_p1 c_p1), (17, .int .i64 (List.length p1 : Int)), (18, .int .i64 s60)]) (fun s60 u61 => [ownE 3 1 encI u7.1 u7.2.1 u7.2.2 r6]) () ?_ ?_ ?_
   ·exact sq
   ·exact sh [0]
   intro s60 u61
   refine sr ?_
   refine la 1 ((19, .bool _) :: _) rfl ?_
   refine nn ?_
   refine cm_seq ?_
   refine cm_cond (by kernel_rfl) rfl (fun h62 => ?_) (fun h62 => ?_)
   ·refine sk ?_
    refine cm_seq ?_
    refine cm_block ?_
    refine sr ?_
    refine lm_ck (fun h63 => ?_)
    refine v_ 20 (fun _ c1 => oI 3 rfl rfl ((hr_p1.old c1).addr h63.1 h63.2) hz_p1.2.2 h63) ?_
    refine v_ 21 (fun _ c1 => oR [.int .i64 ((ix p1 s60).Producer), .int .i64 ((ix p1 s60).Material), .int .i64 ((ix p1 s60).Amount)] ((hr_p1.old c1).row h63.1 h63.2)) ?_
    refine lm_alloc 7 [.int .i64 0, .int .i64 0, .int .i64 0] (v := .agg #[.int .i64 0, .int .i64 0, .int .i64 0]) (by kernel_rfl) (by kernel_rfl) rfl ?_
    intro b64
    refine lm_storeA 0 [.int .i64 _, .int .i64 _, .int .i64 _] [_, _, _] (H' := [blkE _ _ [_, _, _], _]) (by kernel_rfl) rfl rfl (by kernel_rfl) rfl rfl (by kernel_rfl) rfl rfl ?_
    refine nn ?_
    refine cm_seq ?_
    refine cm_cutE [(41, .bool ((((decide ((ix p1 s60).Material < 0)) || (decide ((List.length p0 : Int) ≤ (ix p1 s60).Material))) || (decide ((ix p1 s60).Amount < 0))) || (decide (1000000000000 < (ix p1 s60).Amount))))] ?_ ?_
    ·refine q_ 22 (fun _ _ => oF 1 1 rfl) ?_
     refine q_ 23 (fun _ c1 => oL (c1.cell 0 (u := .int .i64 _) rfl rfl)) ?_
     refine qd 24 (fun _ _ => op_lss rfl rfl) (fun h65 => ?_) (fun h65 => ?_)
     ·refine qa 17 ((41, .bool true) :: (40, undef) :: (39, undef) :: (38, undef) :: (37, .bool true) :: (36, .bool true) :: (35, undef) :: (34, undef) :: (33, undef) :: (32, .bool true) :: (31, .bool true) :: (30, undef) :: (29, undef) :: (28, undef) :: (27, undef) :: (26, undef) :: (25, .bool true) :: _) rfl ?_
      exact leaf_q (sub_out 20 _ rfl (by kernel_rfl) ⟨(congrArg Value.bool (by rw [decide_eq_true h65] <;> rfl)), trivial⟩)
     ·refine qa 1 ((25, .bool false) :: _) rfl ?_
      refine q_ 26 (fun _ _ => oF 1 1 rfl) ?_
      refine q_ 27 (fun _ c1 => oL (c1.cell 0 (u := .int .i64 _) rfl rfl)) ?_
      refine qa 1 ((28, .slice _ _ _) :: _) rfl ?_
      refine q_ 29 (fun _ _ => op_lenN rfl (by kernel_rfl) hz_p0.2.2) ?_
      refine qd 30 (fun _ _ => op_geq rfl rfl) (fun h66 => ?_) (fun h66 => ?_)
      ·refine qa 11 ((41, .bool true) :: (40, undef) :: (39, undef) :: (38, undef) :: (37, .bool true) :: (36, .bool true) :: (35, undef) :: (34, undef) :: (33, undef) :: (32, .bool true) :: (31, .bool true) :: _) rfl ?_
       exact leaf_q (sub_out 20 _ rfl (by kernel_rfl) ⟨(congrArg Value.bool (by rw [decide_eq_false h65, decide_eq_true h66] <;> rfl)), trivial⟩)
      ·refine qa 2 ((32, .bool false) :: (31, .bool false) :: _) rfl ?_
       refine q_ 33 (fun _ _ => oF 2 2 rfl) ?_
       refine q_ 34 (fun _ c1 => oL (c1.cell 0 (u := .int .i64 _) rfl rfl)) ?_
       refine qd 35 (fun _ _ => op_lss rfl rfl) (fun h67 => ?_) (fun h67 => ?_)
       ·refine qa 6 ((41, .bool true) :: (40, undef) :: (39, undef) :: (38, undef) :: (37, .bool true) :: (36, .bool true) :: _) rfl ?_
        exact leaf_q (sub_out 20 _ rfl (by kernel_rfl) ⟨(congrArg Value.bool (by rw [decide_eq_false h65, decide_eq_false h66, decide_eq_true h67] <;> rfl)), trivial⟩)
       ·refine qa 2 ((37, .bool false) :: (36, .bool false) :: _) rfl ?_
        refine q_ 38 (fun _ _ => oF 2 2 rfl) ?_
        refine q_ 39 (fun _ c1 => oL (c1.cell 0 (u := .int .i64 _) rfl rfl)) ?_
        refine qa 2 ((41, .bool _) :: (40, .bool _) :: _) rfl ?_
        exact leaf_q (sub_out 20 _ rfl (by kernel_rfl) ⟨(congrArg Value.bool (by rw [decide_eq_false h65, decide_eq_false h66, decide_eq_false h67] <;> rfl)), trivial⟩)
    refine xm_next ?_
    refine cm_condB (by kernel_rfl) rfl (fun h68 => ?_) (fun h68 => ?_)
    ·refine sr ?_
     refine la 1 ((4, .bool false) :: _) rfl ?_
     refine nn ?_
     refine cm_ret ?_
     refine xm_inR ?_
     refine xm_thenR ?_
     refine xm_lret ?_
     refine xm_inR ?_
     refine xm_lret ?_
     exact xm_retT rfl (by kernel_rfl) (show _ = Value.bool false from rfl) fun w1 c1 => ⟨(), rfl, hsub [] (by kernel_rfl) rfl w1 c1⟩
    ·refine cm_skip ?_
     refine xm_inN ?_
     refine xm_next ?_
     refine cm_region ?_
     refine lm_ck (fun h69 => ?_)
     refine v_ 42 (fun _ _ => op_add rfl rfl h69) ?_
     refine la 1 ((18, .int .i64 _) :: _) rfl ?_
     refine lm_nil ?_
     exact xm_lnext () sq (sh [1])
   ·refine cm_exit ?_
    refine xm_thenE ?_
    refine xm_lexit ?_
    refine xm_here ?_
    exact xm_lnext () sq (sh [0])
  intro s38 u39
  refine sr ?_
  refine la 1 ((43, .slice _ _ _) :: _) rfl ?_
  refine v_ 44 (fun _ _ => op_lenN rfl (by kernel_rfl) hz_p0.2.2) ?_
  refine lm_ck (fun h70 => ?_)
  refine lm_make 45 (el := 3) (sz := 1) (bytes := 8) (enc := encI) (0 : Int) (zv := .int .i64 0) (by kernel_rfl) (by kernel_rfl) (by kernel_rfl) rfl encI_len rfl rfl h70.1 h70.2 (by kernel_rfl) ?_
  intro A71 n72 k73 h74
  refine la 1 ((8, .slice _ _ _) :: _) rfl ?_
  refine nn ?_
  refine cm_join (σ := (List Int)) (ξ := Unit) (fun s132 u133 => [(5, .slice u7.1 u7.2.1 u7.2.2), (8, .slice A71 n72 k73)]) (fun s132 u133 => [ownE 3 1 encI u7.1 u7.2.1 u7.2.2 r6, ownE 3 1 encI A71 n72 k73 s132]) ?_ ?_
  ·refine sr ?_
   refine la 1 ((46, .slice _ _ _) :: _) rfl ?_
   refine v_ 47 (fun _ _ => op_lenN rfl (by kernel_rfl) hz_p1.2.2) ?_
   refine la 1 ((48, .int .i64 _) :: _) rfl ?_
   refine nn ?_
   refine cm_block ?_
   refine cm_loop (σ := (List Int) × Int) (ξ := Unit) (fun s172 u173 => [(5, .slice u7.1 u7.2.1 u7.2.2), (8, .slice A71 n72 k73), (46, .slice A_p1 n_p1 c_p1), (47, .int .i64 (List.length p1 : Int)), (48, .int .i64 s172.2)]) (fun s172 u173 => [ownE 3 1 encI u7.1 u7.2.1 u7.2.2 r6, ownE 3 1 encI A71 n72 k73 s172.1]) () ?_ ?_ ?_
   ·exact sq
   ·exact sh [1, 0]
   intro s172 u173
   refine sr ?_
   refine la 1 ((49, .bool _) :: _) rfl ?_
   refine nn ?_
   refine cm_seq ?_
   refine cm_cond (by kernel_rfl) rfl (fun h174 => ?_) (fun h174 => ?_)
   ·refine sk ?_
    refine cm_seq ?_
    refine cm_block ?_
    refine sr ?_
    refine lm_ck (fun h175 => ?_)
    refine v_ 50 (fun _ c1 => oI 3 rfl rfl ((hr_p1.old c1).addr h175.1 h175.2) hz_p1.2.2 h175) ?_
    refine v_ 51 (fun _ c1 => oR [.int .i64 ((ix p1 s172.2).Producer), .int .i64 ((ix p1 s172.2).Material), .int .i64 ((ix p1 s172.2).Amount)] ((hr_p1.old c1).row h175.1 h175.2)) ?_
    refine lm_alloc 10 [.int .i64 0, .int .i64 0, .int .i64 0] (v := .agg #[.int .i64 0, .int .i64 0, .int .i64 0]) (by kernel_rfl) (by kernel_rfl) rfl ?_
    intro b176
    refine lm_storeA 0 [.int .i64 _, .int .i64 _, .int .i64 _] [_, _, _] (H' := [blkE _ _ [_, _, _], _, _]) (by kernel_rfl) rfl rfl (by kernel_rfl) rfl rfl (by kernel_rfl) rfl rfl ?_
    refine nn ?_
    refine cm_ck (fun h177 => ?_)
    refine cm_ck (fun h178 => ?_)
    refine cm_ck (fun h179 => ?_)
    refine cm_of_then ?_
    refine cm_held (ξ := Unit) (fun u184 => [(5, .slice u7.1 u7.2.1 u7.2.2), (8, .slice A71 n72 k73), (46, .slice A_p1 n_p1 c_p1), (47, .int .i64 (List.length p1 : Int)), (48, .int .i64 s172.2)]) (fun u184 => [ownE 3 1 encI u7.1 u7.2.1 u7.2.2 r6, ownE 3 1 encI A71 n72 k73 (List.set s172.1 (Int.toNat ((ix p1 s172.2).Material)) ((ix s172.1 ((ix p1 s172.2).Material)) + ((ix p1 s172.2).Amount)))]) [blkE b176 52 [.int .i64 ((ix p1 s172.2).Producer), .int .i64 ((ix p1 s172.2).Material), .int .i64 ((ix p1 s172.2).Amount)], ownE 3 1 encI u7.1 u7.2.1 u7.2.2 r6] 10 (by kernel_rfl) (by rfl) (hsub [0, 1] (by kernel_rfl) (by rfl)) ?_ ?_
    ·intro w186 c187
     refine wh_take 0 52 rfl (by kernel_rfl) (by kernel_rfl) (fun w2 c2 => (op_move (v := .slice _ _ _) rfl)) (hsub [0, 1] (by kernel_rfl) rfl _ c187) ?_
     refine wh_take 1 53 rfl (by kernel_rfl) (by kernel_rfl) (fun w2 c2 => (op_fieldL (m := 1) (k := 1) rfl (by kernel_rfl) rfl)) (hsub [0, 1] (by kernel_rfl) rfl _ c187) ?_
     refine wh_take 2 54 rfl (by kernel_rfl) (by kernel_rfl) (fun w2 c2 => (op_load rfl (by kernel_rfl) (c2.cell 0 (u := .int .i64 _) rfl rfl))) (hsub [0, 1] (by kernel_rfl) rfl _ c187) ?_
     refine wh_take 5 57 rfl (by kernel_rfl) (by kernel_rfl) (fun w2 c2 => (op_fieldL (m := 2) (k := 2) rfl (by kernel_rfl) rfl)) (hsub [0, 1] (by kernel_rfl) rfl _ c187) ?_
     refine wh_take 6 58 rfl (by kernel_rfl) (by kernel_rfl) (fun w2 c2 => (op_load rfl (by kernel_rfl) (c2.cell 0 (u := .int .i64 _) rfl rfl))) (hsub [0, 1] (by kernel_rfl) rfl _ c187) ?_
     refine wh_ready [3] (by kernel_rfl) rfl ⟨?_, trivial⟩
     refine ws_run 55 rfl (by kernel_rfl) (op_indexA 1 rfl rfl (by kernel_rfl) ((c187.own 2 rfl encI_len).addr h177.1 h177.2) (c187.ownZ 2 rfl).2.2 h177.1 h177.2) (hsub [0, 1] (by kernel_rfl) rfl _ c187) ?_
     refine wh_ready [4] (by kernel_rfl) rfl ⟨?_, trivial⟩
     refine ws_run 56 rfl (by kernel_rfl) (op_load (v := .int .i64 (ix s172.1 ((ix p1 s172.2).Material))) rfl (by kernel_rfl) ((c187.own 2 rfl encI_len).cell0 h177.1 h177.2 rfl)) (hsub [0, 1] (by kernel_rfl) rfl _ c187) ?_
     refine wh_take 7 59 rfl (by kernel_rfl) (by kernel_rfl) (fun w2 c2 => (op_add rfl rfl h178)) (hsub [0, 1] (by kernel_rfl) rfl _ c187) ?_
     refine wh_ready [8] (by kernel_rfl) rfl ⟨?_, trivial⟩
     refine ws_run 60 rfl (by kernel_rfl) (op_indexA 1 rfl rfl (by kernel_rfl) ((c187.own 2 rfl encI_len).addr h179.1 h179.2) (c187.ownZ 2 rfl).2.2 h179.1 h179.2) (hsub [0, 1] (by kernel_rfl) rfl _ c187) ?_
     refine wh_ready [9] (by kernel_rfl) rfl ⟨?_, trivial⟩
     refine ws_storeIx 2 ((ix s172.1 ((ix p1 s172.2).Material)) + ((ix p1 s172.2).Amount)) 0 [.int .i64 _] rfl (by kernel_rfl) rfl rfl (by kernel_rfl) rfl rfl rfl encI_len encI_one h179.1 h179.2 (by kernel_rfl) rfl c187 ?_
     intro w188 c189
     refine ⟨(hsub [0, 1] (by kernel_rfl) rfl _ c189), ?_⟩
     exact wh_done () (by kernel_rfl) sq (hsub [1, 2] (by kernel_rfl) rfl _ c189)
    intro u184
    refine xm_of_then ?_
    refine xm_inN ?_
    refine xm_next ?_
    refine cm_region ?_
    refine lm_ck (fun h190 => ?_)
    refine v_ 61 (fun _ _ => op_add rfl rfl h190) ?_
    refine la 1 ((48, .int .i64 _) :: _) rfl ?_
    refine lm_nil ?_
    exact xm_lnext () sq (sh [0, 1])
   ·refine cm_exit ?_
    refine xm_thenE ?_
    refine xm_lexit ?_
    refine xm_here ?_
    exact xm_lnext () sq (sh [0, 1])
  intro s132 u133
  refine sr ?_
  refine la 2 ((63, .slice _ _ _) :: (62, .slice _ _ _) :: _) rfl ?_
  refine lm_call 64 (V := (fun (r : Bool) (_u : Unit) => .bool r)) (HR := (fun (_r : Bool) (_u : Unit) => [])) (by kernel_rfl) (fun w1 => op_call (by kernel_rfl)) (fun r1 hr1 w1 c1 => m_slices_Equal_ok N w1 r6 s132 u7.1 u7.2.1 u7.2.2 A71 n72 k73 (c1.own 0 rfl encI_len) (c1.ownZ 0 rfl) (c1.own 1 rfl encI_len) (c1.ownZ 1 rfl) r1 hr1) ?_
  intro r191 u192
  refine la 1 ((4, .bool _) :: _) rfl ?_
  refine nn ?_
  refine cm_ret ?_
  exact xm_retT rfl (by kernel_rfl) (show _ = Value.bool _ from rfl) fun w1 c1 => ⟨(), rfl, hsub [] (by kernel_rfl) rfl w1 c1⟩
end Go.Proofs.YtbnimhmoffchdaaDoor
