/- Models of functions, and that the code follows them. Written by deco.py. -/
import Derived.Test.YtljogldcejcikaaGreatZCmp2
namespace Go.Proofs.YtljogldcejcikaaGreat
open Go.RowKit

/-- tariff.between -/
def m_tariff_between (_N : Nat) (p0 : Int) (p1 : Int) (p2 : Int) : Option (Bool) :=
 some (((decide (p0 ≤ p1)) && (decide (p1 ≤ p2))))
set_option maxRecDepth 20000 in
theorem m_tariff_between_ok (N : Nat) (w0 : World) (p0 : Int) (p1 : Int) (p2 : Int)   (r : Bool) (hr : m_tariff_between N p0 p1 p2 = some r) :
  Calls Tryz.prog 53 [.int .i64 p0, .int .i64 p1, .int .i64 p2].toArray w0 fun x w1 => ∃ u, x = .returned ((fun (r : Bool) (_u : Unit) => .bool r) r u) ∧ Hs w0 ((fun (_r : Bool) (_u : Unit) => []) r u) w1 := by
 refine calls_cm (n := 15) (R := fun r x w1 => ∃ u, x = .returned ((fun (r : Bool) (_u : Unit) => .bool r) r u) ∧ Hs w0 ((fun (_r : Bool) (_u : Unit) => []) r u) w1) Tryz.func53 rfl rfl (Nat.le_of_ble_eq_true rfl) ?_ r hr
 unfold m_tariff_between
 refine cq ?_
 refine cr ?_
 refine lv 6 (by kernel_rfl) (fun w1 c1 => (oa (v := .bool false) rfl)) ?_
 refine ln ?_
 refine xn ?_
 refine cq ?_
 refine cm_cutE [(6, .bool ((decide (p0 ≤ p1)) && (decide (p1 ≤ p2))))] ?_ ?_
 ·skip
  refine wv 7 (by kernel_rfl) (fun w1 c1 => (om (v := .int .i64 _) rfl)) ?_
  refine wv 8 (by kernel_rfl) (fun w1 c1 => (om (v := .int .i64 _) rfl)) ?_
  refine wq_dec 9 (by kernel_rfl) (fun w1 c1 => (op_leq rfl rfl)) (fun h5 => ?_) (fun h5 => ?_)
  ·skip
   refine wv 10 (by kernel_rfl) (fun w1 c1 => (om (v := .bool true) rfl)) ?_
   refine wv 11 (by kernel_rfl) (fun w1 c1 => (om (v := .int .i64 _) rfl)) ?_
   refine wv 12 (by kernel_rfl) (fun w1 c1 => (om (v := .int .i64 _) rfl)) ?_
   refine wv 13 (by kernel_rfl) (fun w1 c1 => (op_leq rfl rfl)) ?_
   refine wv 14 (by kernel_rfl) (fun w1 c1 => (opt (v := .bool _) rfl rfl)) ?_
   refine wv 6 (by kernel_rfl) (fun w1 c1 => (oa (v := .bool _) rfl)) ?_
   exact leaf_q (sub_out 9 _ rfl (by kernel_rfl) ⟨(congrArg Value.bool (by rw [decide_eq_true h5] <;> rfl)), trivial⟩)
  ·skip
   refine wv 10 (by kernel_rfl) (fun w1 c1 => (om (v := .bool false) rfl)) ?_
   refine wk 11 (by kernel_rfl) ?_
   refine wk 12 (by kernel_rfl) ?_
   refine wk 13 (by kernel_rfl) ?_
   refine wv 14 (by kernel_rfl) (fun w1 c1 => (opf (v := .bool false) rfl rfl)) ?_
   refine wv 6 (by kernel_rfl) (fun w1 c1 => (oa (v := .bool false) rfl)) ?_
   exact leaf_q (sub_out 9 _ rfl (by kernel_rfl) ⟨(congrArg Value.bool (by rw [decide_eq_false h5] <;> rfl)), trivial⟩)
 refine xn ?_
 refine cm_ret ?_
 exact xm_retT rfl (by kernel_rfl) (show _ = Value.bool _ from rfl) fun w1 c1 => ⟨(), rfl, hsub [] (by kernel_rfl) rfl w1 c1⟩
/-- tariff.usable -/
def m_tariff_usable (N : Nat) (p0 : ApiTariff) : Option (Bool) :=
 Option.bind (m_tariff_between N (0 : Int) p0.Base (100000 : Int)) fun r6 => callIf (r6 = true) (m_tariff_between N (0 : Int) p0.Empty (100000 : Int)) fun r8 => callIf ((r6 && r8) = true) (m_tariff_between N (0 : Int) p0.Kilo (100000 : Int)) fun r10 => callIf (((r6 && r8) && r10) = true) (m_tariff_between N (0 : Int) p0.Free (1000 : Int)) fun r12 => some ((((r6 && r8) && r10) && r12))
set_option maxRecDepth 20000 in
theorem m_tariff_usable_ok (N : Nat) (w0 : World) (p0 : ApiTariff)   (r : Bool) (hr : m_tariff_usable N p0 = some r) :
  Calls Tryz.prog 54 [.agg #[.int .i64 p0.From, .int .i64 p0.Base, .int .i64 p0.Empty, .int .i64 p0.Kilo, .int .i64 p0.Free]].toArray w0 fun x w1 => ∃ u, x = .returned ((fun (r : Bool) (_u : Unit) => .bool r) r u) ∧ Hs w0 ((fun (_r : Bool) (_u : Unit) => []) r u) w1 := by
 refine calls_cm (n := 21) (R := fun r x w1 => ∃ u, x = .returned ((fun (r : Bool) (_u : Unit) => .bool r) r u) ∧ Hs w0 ((fun (_r : Bool) (_u : Unit) => []) r u) w1) Tryz.func54 rfl rfl (Nat.le_of_ble_eq_true rfl) ?_ r hr
 unfold m_tariff_usable
 refine cq ?_
 refine cr ?_
 refine lm_box 1 [.int .i64 _, .int .i64 _, .int .i64 _, .int .i64 _, .int .i64 _] (by kernel_rfl) rfl ?_
 intro b5
 refine lv 2 (by kernel_rfl) (fun w1 c1 => (oa (v := .bool false) rfl)) ?_
 refine ln ?_
 refine xn ?_
 refine cq ?_
 refine cm_bind fun r6 h7 => ?_
 refine cm_callIf fun r8 h9 => ?_
 refine cm_callIf fun r10 h11 => ?_
 refine cm_callIf fun r12 h13 => ?_
 refine cm_cutE [(2, .bool (((r6 && r8) && r10) && r12))] ?_ ?_
 ·skip
  refine wv 3 (by kernel_rfl) (fun w1 c1 => (oF (m := 1) (k := 1) rfl (by kernel_rfl) rfl)) ?_
  refine wv 4 (by kernel_rfl) (fun w1 c1 => (ol rfl (by kernel_rfl) (c1.cell 0 (u := .int .i64 _) rfl rfl))) ?_
  refine wq_callb 5 (by kernel_rfl) (fun w1 c1 => op_call (by kernel_rfl)) (fun w1 c1 => (m_tariff_between_ok N w1 (0 : Int) p0.Base (100000 : Int)  r6 h7).mono (fun _ _ ⟨_, hx, hu⟩ => ⟨hx, c1.call hu⟩)) (fun h14 => ?_) (fun h14 => ?_)
  ·skip
   refine wv 6 (by kernel_rfl) (fun w1 c1 => (om (v := .bool true) rfl)) ?_
   refine wv 7 (by kernel_rfl) (fun w1 c1 => (oF (m := 2) (k := 2) rfl (by kernel_rfl) rfl)) ?_
   refine wv 8 (by kernel_rfl) (fun w1 c1 => (ol rfl (by kernel_rfl) (c1.cell 0 (u := .int .i64 _) rfl rfl))) ?_
   refine wq_callb 9 (by kernel_rfl) (fun w1 c1 => op_call (by kernel_rfl)) (fun w1 c1 => (m_tariff_between_ok N w1 (0 : Int) p0.Empty (100000 : Int)  r8 (h9 (by rw [h14] <;> rfl))).mono (fun _ _ ⟨_, hx, hu⟩ => ⟨hx, c1.call hu⟩)) (fun h15 => ?_) (fun h15 => ?_)
   ·skip
    refine wv 10 (by kernel_rfl) (fun w1 c1 => (opt (v := .bool true) rfl rfl)) ?_
    refine wv 11 (by kernel_rfl) (fun w1 c1 => (om (v := .bool true) rfl)) ?_
    refine wv 12 (by kernel_rfl) (fun w1 c1 => (oF (m := 3) (k := 3) rfl (by kernel_rfl) rfl)) ?_
    refine wv 13 (by kernel_rfl) (fun w1 c1 => (ol rfl (by kernel_rfl) (c1.cell 0 (u := .int .i64 _) rfl rfl))) ?_
    refine wq_callb 14 (by kernel_rfl) (fun w1 c1 => op_call (by kernel_rfl)) (fun w1 c1 => (m_tariff_between_ok N w1 (0 : Int) p0.Kilo (100000 : Int)  r10 (h11 (by rw [h14, h15] <;> rfl))).mono (fun _ _ ⟨_, hx, hu⟩ => ⟨hx, c1.call hu⟩)) (fun h16 => ?_) (fun h16 => ?_)
    ·skip
     refine wv 15 (by kernel_rfl) (fun w1 c1 => (opt (v := .bool true) rfl rfl)) ?_
     refine wv 16 (by kernel_rfl) (fun w1 c1 => (om (v := .bool true) rfl)) ?_
     refine wv 17 (by kernel_rfl) (fun w1 c1 => (oF (m := 4) (k := 4) rfl (by kernel_rfl) rfl)) ?_
     refine wv 18 (by kernel_rfl) (fun w1 c1 => (ol rfl (by kernel_rfl) (c1.cell 0 (u := .int .i64 _) rfl rfl))) ?_
     refine wq_call 19 (by kernel_rfl) (fun w1 c1 => op_call (by kernel_rfl)) (fun w1 c1 => (m_tariff_between_ok N w1 (0 : Int) p0.Free (1000 : Int)  r12 (h13 (by rw [h14, h15, h16] <;> rfl))).mono (fun _ _ ⟨_, hx, hu⟩ => ⟨hx, c1.call hu⟩)) ?_
     refine wv 20 (by kernel_rfl) (fun w1 c1 => (opt (v := .bool _) rfl rfl)) ?_
     refine wv 2 (by kernel_rfl) (fun w1 c1 => (oa (v := .bool _) rfl)) ?_
     exact leaf_q (sub_out 19 _ rfl (by kernel_rfl) ⟨(congrArg Value.bool (by rw [h14, h15, h16] <;> rfl)), trivial⟩)
    ·skip
     refine wv 15 (by kernel_rfl) (fun w1 c1 => (opt (v := .bool false) rfl rfl)) ?_
     refine wv 16 (by kernel_rfl) (fun w1 c1 => (om (v := .bool false) rfl)) ?_
     refine wk 17 (by kernel_rfl) ?_
     refine wk 18 (by kernel_rfl) ?_
     refine wk 19 (by kernel_rfl) ?_
     refine wv 20 (by kernel_rfl) (fun w1 c1 => (opf (v := .bool false) rfl rfl)) ?_
     refine wv 2 (by kernel_rfl) (fun w1 c1 => (oa (v := .bool false) rfl)) ?_
     exact leaf_q (sub_out 19 _ rfl (by kernel_rfl) ⟨(congrArg Value.bool (by rw [h14, h15, h16] <;> rfl)), trivial⟩)
   ·skip
    refine wv 10 (by kernel_rfl) (fun w1 c1 => (opt (v := .bool false) rfl rfl)) ?_
    refine wv 11 (by kernel_rfl) (fun w1 c1 => (om (v := .bool false) rfl)) ?_
    refine wk 12 (by kernel_rfl) ?_
    refine wk 13 (by kernel_rfl) ?_
    refine wk 14 (by kernel_rfl) ?_
    refine wv 15 (by kernel_rfl) (fun w1 c1 => (opf (v := .bool false) rfl rfl)) ?_
    refine wv 16 (by kernel_rfl) (fun w1 c1 => (om (v := .bool false) rfl)) ?_
    refine wk 17 (by kernel_rfl) ?_
    refine wk 18 (by kernel_rfl) ?_
    refine wk 19 (by kernel_rfl) ?_
    refine wv 20 (by kernel_rfl) (fun w1 c1 => (opf (v := .bool false) rfl rfl)) ?_
    refine wv 2 (by kernel_rfl) (fun w1 c1 => (oa (v := .bool false) rfl)) ?_
    exact leaf_q (sub_out 19 _ rfl (by kernel_rfl) ⟨(congrArg Value.bool (by rw [h14, h15] <;> rfl)), trivial⟩)
  ·skip
   refine wv 6 (by kernel_rfl) (fun w1 c1 => (om (v := .bool false) rfl)) ?_
   refine wk 7 (by kernel_rfl) ?_
   refine wk 8 (by kernel_rfl) ?_
   refine wk 9 (by kernel_rfl) ?_
   refine wv 10 (by kernel_rfl) (fun w1 c1 => (opf (v := .bool false) rfl rfl)) ?_
   refine wv 11 (by kernel_rfl) (fun w1 c1 => (om (v := .bool false) rfl)) ?_
   refine wk 12 (by kernel_rfl) ?_
   refine wk 13 (by kernel_rfl) ?_
   refine wk 14 (by kernel_rfl) ?_
   refine wv 15 (by kernel_rfl) (fun w1 c1 => (opf (v := .bool false) rfl rfl)) ?_
   refine wv 16 (by kernel_rfl) (fun w1 c1 => (om (v := .bool false) rfl)) ?_
   refine wk 17 (by kernel_rfl) ?_
   refine wk 18 (by kernel_rfl) ?_
   refine wk 19 (by kernel_rfl) ?_
   refine wv 20 (by kernel_rfl) (fun w1 c1 => (opf (v := .bool false) rfl rfl)) ?_
   refine wv 2 (by kernel_rfl) (fun w1 c1 => (oa (v := .bool false) rfl)) ?_
   exact leaf_q (sub_out 19 _ rfl (by kernel_rfl) ⟨(congrArg Value.bool (by rw [h14] <;> rfl)), trivial⟩)
 refine xn ?_
 refine cm_ret ?_
 exact xm_retT rfl (by kernel_rfl) (show _ = Value.bool _ from rfl) fun w1 c1 => ⟨(), rfl, hsub [] (by kernel_rfl) rfl w1 c1⟩
/-- tariff.Check -/
def m_tariff_Check (N : Nat) (p0 : (List ApiTariff)) : Option (Int) :=
 (if (List.length p0 : Int) = 0 then
  some ((10 : Int))
 else
  (if 8 < (List.length p0 : Int) then
   some ((8 : Int))
  else
   (andThen
    (loopM (fun (s69 : Int) =>
     (if s69 < (List.length p0 : Int) then
      ck ((0 : Int) ≤ s69 ∧ s69 < (List.length p0 : Int)) (
       Option.bind (m_tariff_between N (0 : Int) ((ix p0 s69).From) (36524 : Int)) fun r74 => callIf ((!(!r74)) = true) (m_tariff_usable N (ix p0 s69)) fun r76 => (if ((!r74) || (!r76)) = true then
        some (.done (.done ((1 : Int))))
       else
        ck (I64 (s69 + (1 : Int))) (
         some (.next (s69 + (1 : Int))))))
     else
      some (.done (.next ())))) N (0 : Int))
   fun (_s43 : Unit) =>
    (andThen
     (loopM (fun (s123 : Int) =>
      (if s123 < (List.length p0 : Int) then
       ck ((0 : Int) ≤ s123 ∧ s123 < (List.length p0 : Int)) (
        ck (I64 (s123 - (1 : Int))) (
         ck ((0 : Int) ≤ (s123 - (1 : Int)) ∧ (s123 - (1 : Int)) < (List.length p0 : Int)) (
          (if (ix p0 s123).From ≤ (ix p0 (s123 - (1 : Int))).From then
           some (.done (.done ((9 : Int))))
          else
           ck (I64 (s123 + (1 : Int))) (
            some (.next (s123 + (1 : Int))))))))
      else
       some (.done (.next ())))) N (1 : Int))
    fun (_s105 : Unit) =>
     some ((0 : Int))))))
set_option maxHeartbeats 2000000 in
set_option maxRecDepth 20000 in
theorem m_tariff_Check_ok (N : Nat) (w0 : World) (p0 : (List ApiTariff)) (A_p0 : Option Addr) (n_p0 c_p0 : Nat) (hr_p0 : RdE w0 5 encApiTariff A_p0 p0) (hz_p0 : SW A_p0 n_p0 c_p0 (List.length p0)) (r : Int) (hr : m_tariff_Check N p0 = some r) :
  Calls Tryz.prog 30 [.slice A_p0 n_p0 c_p0].toArray w0 fun x w1 => ∃ u, x = .returned ((fun (r : Int) (_u : Unit) => .int .i64 r) r u) ∧ Hs w0 ((fun (_r : Int) (_u : Unit) => []) r u) w1 := by
 refine calls_cm (n := 46) (R := fun r x w1 => ∃ u, x = .returned ((fun (r : Int) (_u : Unit) => .int .i64 r) r u) ∧ Hs w0 ((fun (_r : Int) (_u : Unit) => []) r u) w1) Tryz.func30 rfl rfl (Nat.le_of_ble_eq_true rfl) ?_ r hr
 unfold m_tariff_Check
 refine cq ?_
 refine cr ?_
 refine lv 2 (by kernel_rfl) (fun w1 c1 => (oa (v := .int .i64 _) rfl)) ?_
 refine ln ?_
 refine xn ?_
 refine cq ?_
 refine cq ?_
 refine cr ?_
 refine lv 6 (by kernel_rfl) (fun w1 c1 => (om (v := .slice _ _ _) rfl)) ?_
 refine lv 7 (by kernel_rfl) (fun w1 c1 => (op_lenN rfl (by kernel_rfl) hz_p0.2.2)) ?_
 refine lv 8 (by kernel_rfl) (fun w1 c1 => (op_eql rfl rfl)) ?_
 refine ln ?_
 refine xn ?_
 refine cm_cond (by kernel_rfl) rfl (fun h5 => ?_) (fun h5 => ?_)
 ·skip
  refine cq ?_
  refine cr ?_
  refine lv 2 (by kernel_rfl) (fun w1 c1 => (oa (v := .int .i64 _) rfl)) ?_
  refine ln ?_
  refine xn ?_
  refine cm_ret ?_
  refine xm_thenR ?_
  exact xm_retT rfl (by kernel_rfl) (show _ = Value.int .i64 _ from rfl) fun w1 c1 => ⟨(), rfl, hsub [] (by kernel_rfl) rfl w1 c1⟩
 ·skip
  refine cm_skip ?_
  refine xn ?_
  refine cq ?_
  refine cq ?_
  refine cr ?_
  refine lv 9 (by kernel_rfl) (fun w1 c1 => (om (v := .slice _ _ _) rfl)) ?_
  refine lv 10 (by kernel_rfl) (fun w1 c1 => (op_lenN rfl (by kernel_rfl) hz_p0.2.2)) ?_
  refine lv 11 (by kernel_rfl) (fun w1 c1 => (op_gtr rfl rfl)) ?_
  refine ln ?_
  refine xn ?_
  refine cm_cond (by kernel_rfl) rfl (fun h6 => ?_) (fun h6 => ?_)
  ·skip
   refine cq ?_
   refine cr ?_
   refine lv 2 (by kernel_rfl) (fun w1 c1 => (oa (v := .int .i64 _) rfl)) ?_
   refine ln ?_
   refine xn ?_
   refine cm_ret ?_
   refine xm_thenR ?_
   exact xm_retT rfl (by kernel_rfl) (show _ = Value.int .i64 _ from rfl) fun w1 c1 => ⟨(), rfl, hsub [] (by kernel_rfl) rfl w1 c1⟩
  ·skip
   refine cm_skip ?_
   refine xn ?_
   refine cm_join (σ := Unit) (ξ := Unit) (fun s43 u44 => [(0, .slice A_p0 n_p0 c_p0)]) (fun s43 u44 => []) ?_ ?_
   ·skip
    refine cq ?_
    refine cr ?_
    refine lv 12 (by kernel_rfl) (fun w1 c1 => (om (v := .slice _ _ _) rfl)) ?_
    refine lv 13 (by kernel_rfl) (fun w1 c1 => (op_lenN rfl (by kernel_rfl) hz_p0.2.2)) ?_
    refine lv 14 (by kernel_rfl) (fun w1 c1 => (om (v := .int .i64 _) rfl)) ?_
    refine ln ?_
    refine xn ?_
    refine cm_block ?_
    refine cm_loop (σ := Int) (ξ := Unit) (fun s69 u70 => [(0, .slice A_p0 n_p0 c_p0), (12, .slice A_p0 n_p0 c_p0), (13, .int .i64 (List.length p0 : Int)), (14, .int .i64 s69)]) (fun s69 u70 => []) () ?_ ?_ ?_
    ·exact (sc (by kernel_rfl) rfl (sc (by kernel_rfl) rfl (sc (by kernel_rfl) rfl (sc (by kernel_rfl) rfl sub_nil))))
    ·exact hsub [] (by kernel_rfl) rfl
    intro s69 u70
    refine cq ?_
    refine cr ?_
    refine lv 15 (by kernel_rfl) (fun w1 c1 => (op_lss rfl rfl)) ?_
    refine ln ?_
    refine xn ?_
    refine cq ?_
    refine cm_cond (by kernel_rfl) rfl (fun h71 => ?_) (fun h71 => ?_)
    ·skip
     refine cm_skip ?_
     refine xn ?_
     refine cq ?_
     refine cm_block ?_
     refine cq ?_
     refine cr ?_
     refine lm_ck (fun h72 => ?_)
     refine lv 16 (by kernel_rfl) (fun w1 c1 => (op_indexA 5 rfl rfl (by kernel_rfl) ((hr_p0.old c1).addr h72.1 h72.2) hz_p0.2.2 h72.1 h72.2)) ?_
     refine lv 17 (by kernel_rfl) (fun w1 c1 => (op_loadR [.int .i64 ((ix p0 s69).From), .int .i64 ((ix p0 s69).Base), .int .i64 ((ix p0 s69).Empty), .int .i64 ((ix p0 s69).Kilo), .int .i64 ((ix p0 s69).Free)] rfl (by kernel_rfl) ((hr_p0.old c1).row h72.1 h72.2))) ?_
     refine lm_alloc 4 [.int .i64 0, .int .i64 0, .int .i64 0, .int .i64 0, .int .i64 0] (v := .agg #[.int .i64 0, .int .i64 0, .int .i64 0, .int .i64 0, .int .i64 0]) (by kernel_rfl) (by kernel_rfl) rfl ?_
     intro b73
     refine lm_storeA 0 [.int .i64 _, .int .i64 _, .int .i64 _, .int .i64 _, .int .i64 _] [_, _, _, _, _] (H' := [blkE _ _ [_, _, _, _, _]]) (by kernel_rfl) rfl rfl (by kernel_rfl) rfl rfl (by kernel_rfl) rfl rfl ?_
     refine ln ?_
     refine xn ?_
     refine cq ?_
     refine cm_bind fun r74 h75 => ?_
     refine cm_callIf fun r76 h77 => ?_
     refine cm_cutE [(26, .bool ((!r74) || (!r76)))] ?_ ?_
     ·skip
      refine wv 18 (by kernel_rfl) (fun w1 c1 => (oF (m := 0) (k := 0) rfl (by kernel_rfl) rfl)) ?_
      refine wv 19 (by kernel_rfl) (fun w1 c1 => (ol rfl (by kernel_rfl) (c1.cell 0 (u := .int .i64 _) rfl rfl))) ?_
      refine wq_callb 20 (by kernel_rfl) (fun w1 c1 => op_call (by kernel_rfl)) (fun w1 c1 => (m_tariff_between_ok N w1 (0 : Int) ((ix p0 s69).From) (36524 : Int)  r74 h75).mono (fun _ _ ⟨_, hx, hu⟩ => ⟨hx, c1.call hu⟩)) (fun h78 => ?_) (fun h78 => ?_)
      ·skip
       refine wv 21 (by kernel_rfl) (fun w1 c1 => (op_nott rfl)) ?_
       refine wv 22 (by kernel_rfl) (fun w1 c1 => (om (v := .bool false) rfl)) ?_
       refine wv 23 (by kernel_rfl) (fun w1 c1 => (op_loadR [.int .i64 _, .int .i64 _, .int .i64 _, .int .i64 _, .int .i64 _] rfl (by kernel_rfl) (c1.cells 0 rfl rfl))) ?_
       refine wq_call 24 (by kernel_rfl) (fun w1 c1 => op_call (by kernel_rfl)) (fun w1 c1 => (m_tariff_usable_ok N w1 (ix p0 s69)  r76 (h77 (by rw [h78] <;> rfl))).mono (fun _ _ ⟨_, hx, hu⟩ => ⟨hx, c1.call hu⟩)) ?_
       refine wv 25 (by kernel_rfl) (fun w1 c1 => (op_not rfl)) ?_
       refine wv 26 (by kernel_rfl) (fun w1 c1 => (opf (v := .bool _) rfl rfl)) ?_
       exact leaf_q (sub_out 9 _ rfl (by kernel_rfl) ⟨(congrArg Value.bool (by rw [h78] <;> rfl)), trivial⟩)
      ·skip
       refine wv 21 (by kernel_rfl) (fun w1 c1 => (op_notf rfl)) ?_
       refine wv 22 (by kernel_rfl) (fun w1 c1 => (om (v := .bool true) rfl)) ?_
       refine wk 23 (by kernel_rfl) ?_
       refine wk 24 (by kernel_rfl) ?_
       refine wk 25 (by kernel_rfl) ?_
       refine wv 26 (by kernel_rfl) (fun w1 c1 => (opt (v := .bool true) rfl rfl)) ?_
       exact leaf_q (sub_out 9 _ rfl (by kernel_rfl) ⟨(congrArg Value.bool (by rw [h78] <;> rfl)), trivial⟩)
     refine xn ?_
     refine cm_condB (by kernel_rfl) rfl (fun h79 => ?_) (fun h79 => ?_)
     ·skip
      refine cq ?_
      refine cr ?_
      refine lv 2 (by kernel_rfl) (fun w1 c1 => (oa (v := .int .i64 _) rfl)) ?_
      refine ln ?_
      refine xn ?_
      refine cm_ret ?_
      refine xm_inR ?_
      refine xm_thenR ?_
      refine xm_lret ?_
      refine xm_inR ?_
      refine xm_lret ?_
      exact xm_retT rfl (by kernel_rfl) (show _ = Value.int .i64 _ from rfl) fun w1 c1 => ⟨(), rfl, hsub [] (by kernel_rfl) rfl w1 c1⟩
     ·skip
      refine cm_skip ?_
      refine xm_inN ?_
      refine xn ?_
      refine cr ?_
      refine lm_ck (fun h80 => ?_)
      refine lv 27 (by kernel_rfl) (fun w1 c1 => (op_add rfl rfl h80)) ?_
      refine lv 14 (by kernel_rfl) (fun w1 c1 => (om (v := .int .i64 _) rfl)) ?_
      refine ln ?_
      exact xm_lnext () (sc (by kernel_rfl) rfl (sc (by kernel_rfl) rfl (sc (by kernel_rfl) rfl (sc (by kernel_rfl) rfl sub_nil)))) (hsub [] (by kernel_rfl) rfl)
    ·skip
     refine cm_exit ?_
     refine xm_thenE ?_
     refine xm_lexit ?_
     refine xm_here ?_
     exact xm_lnext () (sc (by kernel_rfl) rfl sub_nil) (hsub [] (by kernel_rfl) rfl)
   intro s43 u44
   refine cm_join (σ := Unit) (ξ := Unit) (fun s105 u106 => []) (fun s105 u106 => []) ?_ ?_
   ·skip
    refine cq ?_
    refine cr ?_
    refine lv 5 (by kernel_rfl) (fun w1 c1 => (oa (v := .int .i64 _) rfl)) ?_
    refine ln ?_
    refine xn ?_
    refine cm_block ?_
    refine cm_loop (σ := Int) (ξ := Unit) (fun s123 u124 => [(0, .slice A_p0 n_p0 c_p0), (5, .int .i64 s123)]) (fun s123 u124 => []) () ?_ ?_ ?_
    ·exact (sc (by kernel_rfl) rfl (sc (by kernel_rfl) rfl sub_nil))
    ·exact hsub [] (by kernel_rfl) rfl
    intro s123 u124
    refine cq ?_
    refine cq ?_
    refine cr ?_
    refine lv 28 (by kernel_rfl) (fun w1 c1 => (om (v := .int .i64 _) rfl)) ?_
    refine lv 29 (by kernel_rfl) (fun w1 c1 => (om (v := .slice _ _ _) rfl)) ?_
    refine lv 30 (by kernel_rfl) (fun w1 c1 => (op_lenN rfl (by kernel_rfl) hz_p0.2.2)) ?_
    refine lv 31 (by kernel_rfl) (fun w1 c1 => (op_lss rfl rfl)) ?_
    refine ln ?_
    refine xn ?_
    refine cm_cond (by kernel_rfl) rfl (fun h125 => ?_) (fun h125 => ?_)
    ·skip
     refine cm_skip ?_
     refine xn ?_
     refine cq ?_
     refine cm_block ?_
     refine cq ?_
     refine cm_ck (fun h126 => ?_)
     refine cm_ck (fun h127 => ?_)
     refine cm_ck (fun h128 => ?_)
     refine cm_drawn [(45, .bool (decide ((ix p0 s123).From ≤ (ix p0 (s123 - (1 : Int))).From)))] (by kernel_rfl) (by kernel_rfl) ?_ ?_
     ·skip
      refine wv 34 (by kernel_rfl) (fun w1 c1 => (om (v := .slice _ _ _) rfl)) ?_
      refine wv 35 (by kernel_rfl) (fun w1 c1 => (om (v := .int .i64 _) rfl)) ?_
      refine wv 36 (by kernel_rfl) (fun w1 c1 => (op_indexA 5 rfl rfl (by kernel_rfl) ((hr_p0.old c1).addr h126.1 h126.2) hz_p0.2.2 h126.1 h126.2)) ?_
      refine wv 37 (by kernel_rfl) (fun w1 c1 => (op_field0 rfl (by kernel_rfl))) ?_
      refine wv 38 (by kernel_rfl) (fun w1 c1 => (ol (v := .int .i64 ((ix p0 s123).From)) rfl (by kernel_rfl) ((hr_p0.old c1).cell0 h126.1 h126.2 rfl))) ?_
      refine wv 39 (by kernel_rfl) (fun w1 c1 => (om (v := .slice _ _ _) rfl)) ?_
      refine wv 40 (by kernel_rfl) (fun w1 c1 => (om (v := .int .i64 _) rfl)) ?_
      refine wv 41 (by kernel_rfl) (fun w1 c1 => (op_sub rfl rfl h127)) ?_
      refine wv 42 (by kernel_rfl) (fun w1 c1 => (op_indexA 5 rfl rfl (by kernel_rfl) ((hr_p0.old c1).addr h128.1 h128.2) hz_p0.2.2 h128.1 h128.2)) ?_
      refine wv 43 (by kernel_rfl) (fun w1 c1 => (op_field0 rfl (by kernel_rfl))) ?_
      refine wv 44 (by kernel_rfl) (fun w1 c1 => (ol (v := .int .i64 ((ix p0 (s123 - (1 : Int))).From)) rfl (by kernel_rfl) ((hr_p0.old c1).cell0 h128.1 h128.2 rfl))) ?_
      refine wv 45 (by kernel_rfl) (fun w1 c1 => (op_leq rfl rfl)) ?_
      exact leaf_q (sub_out 12 _ rfl (by kernel_rfl) ⟨rfl, trivial⟩)
     refine xn ?_
     refine cm_cond (by kernel_rfl) rfl (fun h129 => ?_) (fun h129 => ?_)
     ·skip
      refine cq ?_
      refine cr ?_
      refine lv 2 (by kernel_rfl) (fun w1 c1 => (oa (v := .int .i64 _) rfl)) ?_
      refine ln ?_
      refine xn ?_
      refine cm_ret ?_
      refine xm_inR ?_
      refine xm_thenR ?_
      refine xm_lret ?_
      refine xm_inR ?_
      refine xm_lret ?_
      exact xm_retT rfl (by kernel_rfl) (show _ = Value.int .i64 _ from rfl) fun w1 c1 => ⟨(), rfl, hsub [] (by kernel_rfl) rfl w1 c1⟩
     ·skip
      refine cm_skip ?_
      refine xm_inN ?_
      refine xn ?_
      refine cr ?_
      refine lv 32 (by kernel_rfl) (fun w1 c1 => (om (v := .int .i64 _) rfl)) ?_
      refine lm_ck (fun h130 => ?_)
      refine lv 33 (by kernel_rfl) (fun w1 c1 => (op_add rfl rfl h130)) ?_
      refine lv 5 (by kernel_rfl) (fun w1 c1 => (oa (v := .int .i64 _) rfl)) ?_
      refine ln ?_
      exact xm_lnext () (sc (by kernel_rfl) rfl (sc (by kernel_rfl) rfl sub_nil)) (hsub [] (by kernel_rfl) rfl)
    ·skip
     refine cm_exit ?_
     refine xm_thenE ?_
     refine xm_lexit ?_
     refine xm_here ?_
     exact xm_lnext () sub_nil (hsub [] (by kernel_rfl) rfl)
   intro s105 u106
   refine cq ?_
   refine cr ?_
   refine lv 2 (by kernel_rfl) (fun w1 c1 => (oa (v := .int .i64 _) rfl)) ?_
   refine ln ?_
   refine xn ?_
   refine cm_ret ?_
   exact xm_retT rfl (by kernel_rfl) (show _ = Value.int .i64 _ from rfl) fun w1 c1 => ⟨(), rfl, hsub [] (by kernel_rfl) rfl w1 c1⟩
/-- recyclingref53.Usable -/
def m_recyclingref53_Usable (_N : Nat) (p0 : ApiTariff) : Option (Bool) :=
 some (((((((((decide (0 ≤ p0.Base)) && (decide (p0.Base ≤ 100000))) && (decide (0 ≤ p0.Empty))) && (decide (p0.Empty ≤ 100000))) && (decide (0 ≤ p0.Kilo))) && (decide (p0.Kilo ≤ 100000))) && (decide (0 ≤ p0.Free))) && (decide (p0.Free ≤ 1000))))
set_option maxHeartbeats 2000000 in
set_option maxRecDepth 20000 in
theorem m_recyclingref53_Usable_ok (N : Nat) (w0 : World) (p0 : ApiTariff)   (r : Bool) (hr : m_recyclingref53_Usable N p0 = some r) :
  Calls Tryz.prog 59 [.agg #[.int .i64 p0.From, .int .i64 p0.Base, .int .i64 p0.Empty, .int .i64 p0.Kilo, .int .i64 p0.Free]].toArray w0 fun x w1 => ∃ u, x = .returned ((fun (r : Bool) (_u : Unit) => .bool r) r u) ∧ Hs w0 ((fun (_r : Bool) (_u : Unit) => []) r u) w1 := by
 refine calls_cm (n := 41) (R := fun r x w1 => ∃ u, x = .returned ((fun (r : Bool) (_u : Unit) => .bool r) r u) ∧ Hs w0 ((fun (_r : Bool) (_u : Unit) => []) r u) w1) Tryz.func59 rfl rfl (Nat.le_of_ble_eq_true rfl) ?_ r hr
 unfold m_recyclingref53_Usable
 refine cq ?_
 refine cr ?_
 refine lm_box 1 [.int .i64 _, .int .i64 _, .int .i64 _, .int .i64 _, .int .i64 _] (by kernel_rfl) rfl ?_
 intro b5
 refine lv 2 (by kernel_rfl) (fun w1 c1 => (oa (v := .bool false) rfl)) ?_
 refine ln ?_
 refine xn ?_
 refine cq ?_
 refine cm_cutE [(2, .bool ((((((((decide (0 ≤ p0.Base)) && (decide (p0.Base ≤ 100000))) && (decide (0 ≤ p0.Empty))) && (decide (p0.Empty ≤ 100000))) && (decide (0 ≤ p0.Kilo))) && (decide (p0.Kilo ≤ 100000))) && (decide (0 ≤ p0.Free))) && (decide (p0.Free ≤ 1000))))] ?_ ?_
 ·skip
  refine wv 3 (by kernel_rfl) (fun w1 c1 => (oF (m := 1) (k := 1) rfl (by kernel_rfl) rfl)) ?_
  refine wv 4 (by kernel_rfl) (fun w1 c1 => (ol rfl (by kernel_rfl) (c1.cell 0 (u := .int .i64 _) rfl rfl))) ?_
  refine wq_dec 5 (by kernel_rfl) (fun w1 c1 => (op_geq rfl rfl)) (fun h6 => ?_) (fun h6 => ?_)
  ·skip
   refine wv 6 (by kernel_rfl) (fun w1 c1 => (om (v := .bool true) rfl)) ?_
   refine wv 7 (by kernel_rfl) (fun w1 c1 => (oF (m := 1) (k := 1) rfl (by kernel_rfl) rfl)) ?_
   refine wv 8 (by kernel_rfl) (fun w1 c1 => (ol rfl (by kernel_rfl) (c1.cell 0 (u := .int .i64 _) rfl rfl))) ?_
   refine wq_dec 9 (by kernel_rfl) (fun w1 c1 => (op_leq rfl rfl)) (fun h7 => ?_) (fun h7 => ?_)
   ·skip
    refine wv 10 (by kernel_rfl) (fun w1 c1 => (opt (v := .bool true) rfl rfl)) ?_
    refine wv 11 (by kernel_rfl) (fun w1 c1 => (om (v := .bool true) rfl)) ?_
    refine wv 12 (by kernel_rfl) (fun w1 c1 => (oF (m := 2) (k := 2) rfl (by kernel_rfl) rfl)) ?_
    refine wv 13 (by kernel_rfl) (fun w1 c1 => (ol rfl (by kernel_rfl) (c1.cell 0 (u := .int .i64 _) rfl rfl))) ?_
    refine wq_dec 14 (by kernel_rfl) (fun w1 c1 => (op_geq rfl rfl)) (fun h8 => ?_) (fun h8 => ?_)
    ·skip
     refine wv 15 (by kernel_rfl) (fun w1 c1 => (opt (v := .bool true) rfl rfl)) ?_
     refine wv 16 (by kernel_rfl) (fun w1 c1 => (om (v := .bool true) rfl)) ?_
     refine wv 17 (by kernel_rfl) (fun w1 c1 => (oF (m := 2) (k := 2) rfl (by kernel_rfl) rfl)) ?_
     refine wv 18 (by kernel_rfl) (fun w1 c1 => (ol rfl (by kernel_rfl) (c1.cell 0 (u := .int .i64 _) rfl rfl))) ?_
     refine wq_dec 19 (by kernel_rfl) (fun w1 c1 => (op_leq rfl rfl)) (fun h9 => ?_) (fun h9 => ?_)
     ·skip
      refine wv 20 (by kernel_rfl) (fun w1 c1 => (opt (v := .bool true) rfl rfl)) ?_
      refine wv 21 (by kernel_rfl) (fun w1 c1 => (om (v := .bool true) rfl)) ?_
      refine wv 22 (by kernel_rfl) (fun w1 c1 => (oF (m := 3) (k := 3) rfl (by kernel_rfl) rfl)) ?_
      refine wv 23 (by kernel_rfl) (fun w1 c1 => (ol rfl (by kernel_rfl) (c1.cell 0 (u := .int .i64 _) rfl rfl))) ?_
      refine wq_dec 24 (by kernel_rfl) (fun w1 c1 => (op_geq rfl rfl)) (fun h10 => ?_) (fun h10 => ?_)
      ·skip
       refine wv 25 (by kernel_rfl) (fun w1 c1 => (opt (v := .bool true) rfl rfl)) ?_
       refine wv 26 (by kernel_rfl) (fun w1 c1 => (om (v := .bool true) rfl)) ?_
       refine wv 27 (by kernel_rfl) (fun w1 c1 => (oF (m := 3) (k := 3) rfl (by kernel_rfl) rfl)) ?_
       refine wv 28 (by kernel_rfl) (fun w1 c1 => (ol rfl (by kernel_rfl) (c1.cell 0 (u := .int .i64 _) rfl rfl))) ?_
       refine wq_dec 29 (by kernel_rfl) (fun w1 c1 => (op_leq rfl rfl)) (fun h11 => ?_) (fun h11 => ?_)
       ·skip
        refine wv 30 (by kernel_rfl) (fun w1 c1 => (opt (v := .bool true) rfl rfl)) ?_
        refine wv 31 (by kernel_rfl) (fun w1 c1 => (om (v := .bool true) rfl)) ?_
        refine wv 32 (by kernel_rfl) (fun w1 c1 => (oF (m := 4) (k := 4) rfl (by kernel_rfl) rfl)) ?_
        refine wv 33 (by kernel_rfl) (fun w1 c1 => (ol rfl (by kernel_rfl) (c1.cell 0 (u := .int .i64 _) rfl rfl))) ?_
        refine wq_dec 34 (by kernel_rfl) (fun w1 c1 => (op_geq rfl rfl)) (fun h12 => ?_) (fun h12 => ?_)
        ·skip
         refine wv 35 (by kernel_rfl) (fun w1 c1 => (opt (v := .bool true) rfl rfl)) ?_
         refine wv 36 (by kernel_rfl) (fun w1 c1 => (om (v := .bool true) rfl)) ?_
         refine wv 37 (by kernel_rfl) (fun w1 c1 => (oF (m := 4) (k := 4) rfl (by kernel_rfl) rfl)) ?_
         refine wv 38 (by kernel_rfl) (fun w1 c1 => (ol rfl (by kernel_rfl) (c1.cell 0 (u := .int .i64 _) rfl rfl))) ?_
         refine wv 39 (by kernel_rfl) (fun w1 c1 => (op_leq rfl rfl)) ?_
         refine wv 40 (by kernel_rfl) (fun w1 c1 => (opt (v := .bool _) rfl rfl)) ?_
         refine wv 2 (by kernel_rfl) (fun w1 c1 => (oa (v := .bool _) rfl)) ?_
         exact leaf_q (sub_out 39 _ rfl (by kernel_rfl) ⟨(congrArg Value.bool (by rw [decide_eq_true h6, decide_eq_true h7, decide_eq_true h8, decide_eq_true h9, decide_eq_true h10, decide_eq_true h11, decide_eq_true h12] <;> rfl)), trivial⟩)
        ·skip
         refine wv 35 (by kernel_rfl) (fun w1 c1 => (opt (v := .bool false) rfl rfl)) ?_
         refine wv 36 (by kernel_rfl) (fun w1 c1 => (om (v := .bool false) rfl)) ?_
         refine wk 37 (by kernel_rfl) ?_
         refine wk 38 (by kernel_rfl) ?_
         refine wk 39 (by kernel_rfl) ?_
         refine wv 40 (by kernel_rfl) (fun w1 c1 => (opf (v := .bool false) rfl rfl)) ?_
         refine wv 2 (by kernel_rfl) (fun w1 c1 => (oa (v := .bool false) rfl)) ?_
         exact leaf_q (sub_out 39 _ rfl (by kernel_rfl) ⟨(congrArg Value.bool (by rw [decide_eq_true h6, decide_eq_true h7, decide_eq_true h8, decide_eq_true h9, decide_eq_true h10, decide_eq_true h11, decide_eq_false h12] <;> rfl)), trivial⟩)
       ·skip
        refine wv 30 (by kernel_rfl) (fun w1 c1 => (opt (v := .bool false) rfl rfl)) ?_
        refine wv 31 (by kernel_rfl) (fun w1 c1 => (om (v := .bool false) rfl)) ?_
        refine wk 32 (by kernel_rfl) ?_
        refine wk 33 (by kernel_rfl) ?_
        refine wk 34 (by kernel_rfl) ?_
        refine wv 35 (by kernel_rfl) (fun w1 c1 => (opf (v := .bool false) rfl rfl)) ?_
        refine wv 36 (by kernel_rfl) (fun w1 c1 => (om (v := .bool false) rfl)) ?_
        refine wk 37 (by kernel_rfl) ?_
        refine wk 38 (by kernel_rfl) ?_
        refine wk 39 (by kernel_rfl) ?_
        refine wv 40 (by kernel_rfl) (fun w1 c1 => (opf (v := .bool false) rfl rfl)) ?_
        refine wv 2 (by kernel_rfl) (fun w1 c1 => (oa (v := .bool false) rfl)) ?_
        exact leaf_q (sub_out 39 _ rfl (by kernel_rfl) ⟨(congrArg Value.bool (by rw [decide_eq_true h6, decide_eq_true h7, decide_eq_true h8, decide_eq_true h9, decide_eq_true h10, decide_eq_false h11] <;> rfl)), trivial⟩)
      ·skip
       refine wv 25 (by kernel_rfl) (fun w1 c1 => (opt (v := .bool false) rfl rfl)) ?_
       refine wv 26 (by kernel_rfl) (fun w1 c1 => (om (v := .bool false) rfl)) ?_
       refine wk 27 (by kernel_rfl) ?_
       refine wk 28 (by kernel_rfl) ?_
       refine wk 29 (by kernel_rfl) ?_
       refine wv 30 (by kernel_rfl) (fun w1 c1 => (opf (v := .bool false) rfl rfl)) ?_
       refine wv 31 (by kernel_rfl) (fun w1 c1 => (om (v := .bool false) rfl)) ?_
       refine wk 32 (by kernel_rfl) ?_
       refine wk 33 (by kernel_rfl) ?_
       refine wk 34 (by kernel_rfl) ?_
       refine wv 35 (by kernel_rfl) (fun w1 c1 => (opf (v := .bool false) rfl rfl)) ?_
       refine wv 36 (by kernel_rfl) (fun w1 c1 => (om (v := .bool false) rfl)) ?_
       refine wk 37 (by kernel_rfl) ?_
       refine wk 38 (by kernel_rfl) ?_
       refine wk 39 (by kernel_rfl) ?_
       refine wv 40 (by kernel_rfl) (fun w1 c1 => (opf (v := .bool false) rfl rfl)) ?_
       refine wv 2 (by kernel_rfl) (fun w1 c1 => (oa (v := .bool false) rfl)) ?_
       exact leaf_q (sub_out 39 _ rfl (by kernel_rfl) ⟨(congrArg Value.bool (by rw [decide_eq_true h6, decide_eq_true h7, decide_eq_true h8, decide_eq_true h9, decide_eq_false h10] <;> rfl)), trivial⟩)
     ·skip
      refine wv 20 (by kernel_rfl) (fun w1 c1 => (opt (v := .bool false) rfl rfl)) ?_
      refine wv 21 (by kernel_rfl) (fun w1 c1 => (om (v := .bool false) rfl)) ?_
      refine wk 22 (by kernel_rfl) ?_
      refine wk 23 (by kernel_rfl) ?_
      refine wk 24 (by kernel_rfl) ?_
      refine wv 25 (by kernel_rfl) (fun w1 c1 => (opf (v := .bool false) rfl rfl)) ?_
      refine wv 26 (by kernel_rfl) (fun w1 c1 => (om (v := .bool false) rfl)) ?_
      refine wk 27 (by kernel_rfl) ?_
      refine wk 28 (by kernel_rfl) ?_
      refine wk 29 (by kernel_rfl) ?_
      refine wv 30 (by kernel_rfl) (fun w1 c1 => (opf (v := .bool false) rfl rfl)) ?_
      refine wv 31 (by kernel_rfl) (fun w1 c1 => (om (v := .bool false) rfl)) ?_
      refine wk 32 (by kernel_rfl) ?_
      refine wk 33 (by kernel_rfl) ?_
      refine wk 34 (by kernel_rfl) ?_
      refine wv 35 (by kernel_rfl) (fun w1 c1 => (opf (v := .bool false) rfl rfl)) ?_
      refine wv 36 (by kernel_rfl) (fun w1 c1 => (om (v := .bool false) rfl)) ?_
      refine wk 37 (by kernel_rfl) ?_
      refine wk 38 (by kernel_rfl) ?_
      refine wk 39 (by kernel_rfl) ?_
      refine wv 40 (by kernel_rfl) (fun w1 c1 => (opf (v := .bool false) rfl rfl)) ?_
      refine wv 2 (by kernel_rfl) (fun w1 c1 => (oa (v := .bool false) rfl)) ?_
      exact leaf_q (sub_out 39 _ rfl (by kernel_rfl) ⟨(congrArg Value.bool (by rw [decide_eq_true h6, decide_eq_true h7, decide_eq_true h8, decide_eq_false h9] <;> rfl)), trivial⟩)
    ·skip
     refine wv 15 (by kernel_rfl) (fun w1 c1 => (opt (v := .bool false) rfl rfl)) ?_
     refine wv 16 (by kernel_rfl) (fun w1 c1 => (om (v := .bool false) rfl)) ?_
     refine wk 17 (by kernel_rfl) ?_
     refine wk 18 (by kernel_rfl) ?_
     refine wk 19 (by kernel_rfl) ?_
     refine wv 20 (by kernel_rfl) (fun w1 c1 => (opf (v := .bool false) rfl rfl)) ?_
     refine wv 21 (by kernel_rfl) (fun w1 c1 => (om (v := .bool false) rfl)) ?_
     refine wk 22 (by kernel_rfl) ?_
     refine wk 23 (by kernel_rfl) ?_
     refine wk 24 (by kernel_rfl) ?_
     refine wv 25 (by kernel_rfl) (fun w1 c1 => (opf (v := .bool false) rfl rfl)) ?_
     refine wv 26 (by kernel_rfl) (fun w1 c1 => (om (v := .bool false) rfl)) ?_
     refine wk 27 (by kernel_rfl) ?_
     refine wk 28 (by kernel_rfl) ?_
     refine wk 29 (by kernel_rfl) ?_
     refine wv 30 (by kernel_rfl) (fun w1 c1 => (opf (v := .bool false) rfl rfl)) ?_
     refine wv 31 (by kernel_rfl) (fun w1 c1 => (om (v := .bool false) rfl)) ?_
     refine wk 32 (by kernel_rfl) ?_
     refine wk 33 (by kernel_rfl) ?_
     refine wk 34 (by kernel_rfl) ?_
     refine wv 35 (by kernel_rfl) (fun w1 c1 => (opf (v := .bool false) rfl rfl)) ?_
     refine wv 36 (by kernel_rfl) (fun w1 c1 => (om (v := .bool false) rfl)) ?_
     refine wk 37 (by kernel_rfl) ?_
     refine wk 38 (by kernel_rfl) ?_
     refine wk 39 (by kernel_rfl) ?_
     refine wv 40 (by kernel_rfl) (fun w1 c1 => (opf (v := .bool false) rfl rfl)) ?_
     refine wv 2 (by kernel_rfl) (fun w1 c1 => (oa (v := .bool false) rfl)) ?_
     exact leaf_q (sub_out 39 _ rfl (by kernel_rfl) ⟨(congrArg Value.bool (by rw [decide_eq_true h6, decide_eq_true h7, decide_eq_false h8] <;> rfl)), trivial⟩)
   ·skip
    refine wv 10 (by kernel_rfl) (fun w1 c1 => (opt (v := .bool false) rfl rfl)) ?_
    refine wv 11 (by kernel_rfl) (fun w1 c1 => (om (v := .bool false) rfl)) ?_
    refine wk 12 (by kernel_rfl) ?_
    refine wk 13 (by kernel_rfl) ?_
    refine wk 14 (by kernel_rfl) ?_
    refine wv 15 (by kernel_rfl) (fun w1 c1 => (opf (v := .bool false) rfl rfl)) ?_
    refine wv 16 (by kernel_rfl) (fun w1 c1 => (om (v := .bool false) rfl)) ?_
    refine wk 17 (by kernel_rfl) ?_
    refine wk 18 (by kernel_rfl) ?_
    refine wk 19 (by kernel_rfl) ?_
    refine wv 20 (by kernel_rfl) (fun w1 c1 => (opf (v := .bool false) rfl rfl)) ?_
    refine wv 21 (by kernel_rfl) (fun w1 c1 => (om (v := .bool false) rfl)) ?_
    refine wk 22 (by kernel_rfl) ?_
    refine wk 23 (by kernel_rfl) ?_
    refine wk 24 (by kernel_rfl) ?_
    refine wv 25 (by kernel_rfl) (fun w1 c1 => (opf (v := .bool false) rfl rfl)) ?_
    refine wv 26 (by kernel_rfl) (fun w1 c1 => (om (v := .bool false) rfl)) ?_
    refine wk 27 (by kernel_rfl) ?_
    refine wk 28 (by kernel_rfl) ?_
    refine wk 29 (by kernel_rfl) ?_
    refine wv 30 (by kernel_rfl) (fun w1 c1 => (opf (v := .bool false) rfl rfl)) ?_
    refine wv 31 (by kernel_rfl) (fun w1 c1 => (om (v := .bool false) rfl)) ?_
    refine wk 32 (by kernel_rfl) ?_
    refine wk 33 (by kernel_rfl) ?_
    refine wk 34 (by kernel_rfl) ?_
    refine wv 35 (by kernel_rfl) (fun w1 c1 => (opf (v := .bool false) rfl rfl)) ?_
    refine wv 36 (by kernel_rfl) (fun w1 c1 => (om (v := .bool false) rfl)) ?_
    refine wk 37 (by kernel_rfl) ?_
    refine wk 38 (by kernel_rfl) ?_
    refine wk 39 (by kernel_rfl) ?_
    refine wv 40 (by kernel_rfl) (fun w1 c1 => (opf (v := .bool false) rfl rfl)) ?_
    refine wv 2 (by kernel_rfl) (fun w1 c1 => (oa (v := .bool false) rfl)) ?_
    exact leaf_q (sub_out 39 _ rfl (by kernel_rfl) ⟨(congrArg Value.bool (by rw [decide_eq_true h6, decide_eq_false h7] <;> rfl)), trivial⟩)
  ·skip
   refine wv 6 (by kernel_rfl) (fun w1 c1 => (om (v := .bool false) rfl)) ?_
   refine wk 7 (by kernel_rfl) ?_
   refine wk 8 (by kernel_rfl) ?_
   refine wk 9 (by kernel_rfl) ?_
   refine wv 10 (by kernel_rfl) (fun w1 c1 => (opf (v := .bool false) rfl rfl)) ?_
   refine wv 11 (by kernel_rfl) (fun w1 c1 => (om (v := .bool false) rfl)) ?_
   refine wk 12 (by kernel_rfl) ?_
   refine wk 13 (by kernel_rfl) ?_
   refine wk 14 (by kernel_rfl) ?_
   refine wv 15 (by kernel_rfl) (fun w1 c1 => (opf (v := .bool false) rfl rfl)) ?_
   refine wv 16 (by kernel_rfl) (fun w1 c1 => (om (v := .bool false) rfl)) ?_
   refine wk 17 (by kernel_rfl) ?_
   refine wk 18 (by kernel_rfl) ?_
   refine wk 19 (by kernel_rfl) ?_
   refine wv 20 (by kernel_rfl) (fun w1 c1 => (opf (v := .bool false) rfl rfl)) ?_
   refine wv 21 (by kernel_rfl) (fun w1 c1 => (om (v := .bool false) rfl)) ?_
   refine wk 22 (by kernel_rfl) ?_
   refine wk 23 (by kernel_rfl) ?_
   refine wk 24 (by kernel_rfl) ?_
   refine wv 25 (by kernel_rfl) (fun w1 c1 => (opf (v := .bool false) rfl rfl)) ?_
   refine wv 26 (by kernel_rfl) (fun w1 c1 => (om (v := .bool false) rfl)) ?_
   refine wk 27 (by kernel_rfl) ?_
   refine wk 28 (by kernel_rfl) ?_
   refine wk 29 (by kernel_rfl) ?_
   refine wv 30 (by kernel_rfl) (fun w1 c1 => (opf (v := .bool false) rfl rfl)) ?_
   refine wv 31 (by kernel_rfl) (fun w1 c1 => (om (v := .bool false) rfl)) ?_
   refine wk 32 (by kernel_rfl) ?_
   refine wk 33 (by kernel_rfl) ?_
   refine wk 34 (by kernel_rfl) ?_
   refine wv 35 (by kernel_rfl) (fun w1 c1 => (opf (v := .bool false) rfl rfl)) ?_
   refine wv 36 (by kernel_rfl) (fun w1 c1 => (om (v := .bool false) rfl)) ?_
   refine wk 37 (by kernel_rfl) ?_
   refine wk 38 (by kernel_rfl) ?_
   refine wk 39 (by kernel_rfl) ?_
   refine wv 40 (by kernel_rfl) (fun w1 c1 => (opf (v := .bool false) rfl rfl)) ?_
   refine wv 2 (by kernel_rfl) (fun w1 c1 => (oa (v := .bool false) rfl)) ?_
   exact leaf_q (sub_out 39 _ rfl (by kernel_rfl) ⟨(congrArg Value.bool (by rw [decide_eq_false h6] <;> rfl)), trivial⟩)
 refine xn ?_
 refine cm_ret ?_
 exact xm_retT rfl (by kernel_rfl) (show _ = Value.bool _ from rfl) fun w1 c1 => ⟨(), rfl, hsub [] (by kernel_rfl) rfl w1 c1⟩
/-- recyclingref53.Check -/
def m_recyclingref53_Check (N : Nat) (p0 : (List ApiTariff)) : Option (Int) :=
 (if (List.length p0 : Int) = 0 then
  some ((10 : Int))
 else
  (if 8 < (List.length p0 : Int) then
   some ((8 : Int))
  else
   (andThen
    (loopM (fun (s69 : Int) =>
     (if s69 < (List.length p0 : Int) then
      ck ((0 : Int) ≤ s69 ∧ s69 < (List.length p0 : Int)) (
       ck ((!(decide ((ix p0 s69).From < 0))) = true → (0 : Int) ≤ s69 ∧ s69 < (List.length p0 : Int)) (
        ck ((!((decide ((ix p0 s69).From < 0)) || (decide (36524 < (ix p0 s69).From)))) = true → (0 : Int) ≤ s69 ∧ s69 < (List.length p0 : Int)) (
         callIf ((!((decide ((ix p0 s69).From < 0)) || (decide (36524 < (ix p0 s69).From)))) = true) (m_recyclingref53_Usable N (ix p0 s69)) fun r75 => (if (((decide ((ix p0 s69).From < 0)) || (decide (36524 < (ix p0 s69).From))) || (!r75)) = true then
          some (.done (.done ((1 : Int))))
         else
          ck (I64 (s69 + (1 : Int))) (
           some (.next (s69 + (1 : Int))))))))
     else
      some (.done (.next ())))) N (0 : Int))
   fun (_s43 : Unit) =>
    (andThen
     (loopM (fun (s123 : Int) =>
      (if s123 < (List.length p0 : Int) then
       ck ((0 : Int) ≤ s123 ∧ s123 < (List.length p0 : Int)) (
        ck (I64 (s123 - (1 : Int))) (
         ck ((0 : Int) ≤ (s123 - (1 : Int)) ∧ (s123 - (1 : Int)) < (List.length p0 : Int)) (
          (if (ix p0 s123).From ≤ (ix p0 (s123 - (1 : Int))).From then
           some (.done (.done ((9 : Int))))
          else
           ck (I64 (s123 + (1 : Int))) (
            some (.next (s123 + (1 : Int))))))))
      else
       some (.done (.next ())))) N (1 : Int))
    fun (_s105 : Unit) =>
     some ((0 : Int))))))
set_option maxHeartbeats 2000000 in
set_option maxRecDepth 20000 in
theorem m_recyclingref53_Check_ok (N : Nat) (w0 : World) (p0 : (List ApiTariff)) (A_p0 : Option Addr) (n_p0 c_p0 : Nat) (hr_p0 : RdE w0 5 encApiTariff A_p0 p0) (hz_p0 : SW A_p0 n_p0 c_p0 (List.length p0)) (r : Int) (hr : m_recyclingref53_Check N p0 = some r) :
  Calls Tryz.prog 37 [.slice A_p0 n_p0 c_p0].toArray w0 fun x w1 => ∃ u, x = .returned ((fun (r : Int) (_u : Unit) => .int .i64 r) r u) ∧ Hs w0 ((fun (_r : Int) (_u : Unit) => []) r u) w1 := by
 refine calls_cm (n := 57) (R := fun r x w1 => ∃ u, x = .returned ((fun (r : Int) (_u : Unit) => .int .i64 r) r u) ∧ Hs w0 ((fun (_r : Int) (_u : Unit) => []) r u) w1) Tryz.func37 rfl rfl (Nat.le_of_ble_eq_true rfl) ?_ r hr
 unfold m_recyclingref53_Check
 refine cq ?_
 refine cr ?_
 refine lv 2 (by kernel_rfl) (fun w1 c1 => (oa (v := .int .i64 _) rfl)) ?_
 refine ln ?_
 refine xn ?_
 refine cq ?_
 refine cq ?_
 refine cr ?_
 refine lv 5 (by kernel_rfl) (fun w1 c1 => (om (v := .slice _ _ _) rfl)) ?_
 refine lv 6 (by kernel_rfl) (fun w1 c1 => (op_lenN rfl (by kernel_rfl) hz_p0.2.2)) ?_
 refine lv 7 (by kernel_rfl) (fun w1 c1 => (op_eql rfl rfl)) ?_
 refine ln ?_
 refine xn ?_
 refine cm_cond (by kernel_rfl) rfl (fun h5 => ?_) (fun h5 => ?_)
 ·skip
  refine cq ?_
  refine cr ?_
  refine lv 2 (by kernel_rfl) (fun w1 c1 => (oa (v := .int .i64 _) rfl)) ?_
  refine ln ?_
  refine xn ?_
  refine cm_ret ?_
  refine xm_thenR ?_
  exact xm_retT rfl (by kernel_rfl) (show _ = Value.int .i64 _ from rfl) fun w1 c1 => ⟨(), rfl, hsub [] (by kernel_rfl) rfl w1 c1⟩
 ·skip
  refine cm_skip ?_
  refine xn ?_
  refine cq ?_
  refine cq ?_
  refine cr ?_
  refine lv 8 (by kernel_rfl) (fun w1 c1 => (om (v := .slice _ _ _) rfl)) ?_
  refine lv 9 (by kernel_rfl) (fun w1 c1 => (op_lenN rfl (by kernel_rfl) hz_p0.2.2)) ?_
  refine lv 10 (by kernel_rfl) (fun w1 c1 => (op_gtr rfl rfl)) ?_
  refine ln ?_
  refine xn ?_
  refine cm_cond (by kernel_rfl) rfl (fun h6 => ?_) (fun h6 => ?_)
  ·skip
   refine cq ?_
   refine cr ?_
   refine lv 2 (by kernel_rfl) (fun w1 c1 => (oa (v := .int .i64 _) rfl)) ?_
   refine ln ?_
   refine xn ?_
   refine cm_ret ?_
   refine xm_thenR ?_
   exact xm_retT rfl (by kernel_rfl) (show _ = Value.int .i64 _ from rfl) fun w1 c1 => ⟨(), rfl, hsub [] (by kernel_rfl) rfl w1 c1⟩
  ·skip
   refine cm_skip ?_
   refine xn ?_
   refine cm_join (σ := Unit) (ξ := Unit) (fun s43 u44 => [(0, .slice A_p0 n_p0 c_p0)]) (fun s43 u44 => []) ?_ ?_
   ·skip
    refine cq ?_
    refine cr ?_
    refine lv 3 (by kernel_rfl) (fun w1 c1 => (oa (v := .int .i64 _) rfl)) ?_
    refine ln ?_
    refine xn ?_
    refine cm_block ?_
    refine cm_loop (σ := Int) (ξ := Unit) (fun s69 u70 => [(0, .slice A_p0 n_p0 c_p0), (3, .int .i64 s69)]) (fun s69 u70 => []) () ?_ ?_ ?_
    ·exact (sc (by kernel_rfl) rfl (sc (by kernel_rfl) rfl sub_nil))
    ·exact hsub [] (by kernel_rfl) rfl
    intro s69 u70
    refine cq ?_
    refine cq ?_
    refine cr ?_
    refine lv 11 (by kernel_rfl) (fun w1 c1 => (om (v := .int .i64 _) rfl)) ?_
    refine lv 12 (by kernel_rfl) (fun w1 c1 => (om (v := .slice _ _ _) rfl)) ?_
    refine lv 13 (by kernel_rfl) (fun w1 c1 => (op_lenN rfl (by kernel_rfl) hz_p0.2.2)) ?_
    refine lv 14 (by kernel_rfl) (fun w1 c1 => (op_lss rfl rfl)) ?_
    refine ln ?_
    refine xn ?_
    refine cm_cond (by kernel_rfl) rfl (fun h71 => ?_) (fun h71 => ?_)
    ·skip
     refine cm_skip ?_
     refine xn ?_
     refine cq ?_
     refine cm_block ?_
     refine cq ?_
     refine cm_ck (fun h72 => ?_)
     refine cm_ck (fun h73 => ?_)
     refine cm_ck (fun h74 => ?_)
     refine cm_callIf fun r75 h76 => ?_
     refine cm_cutE [(38, .bool (((decide ((ix p0 s69).From < 0)) || (decide (36524 < (ix p0 s69).From))) || (!r75)))] ?_ ?_
     ·skip
      refine wv 17 (by kernel_rfl) (fun w1 c1 => (om (v := .slice _ _ _) rfl)) ?_
      refine wv 18 (by kernel_rfl) (fun w1 c1 => (om (v := .int .i64 _) rfl)) ?_
      refine wv 19 (by kernel_rfl) (fun w1 c1 => (op_indexA 5 rfl rfl (by kernel_rfl) ((hr_p0.old c1).addr h72.1 h72.2) hz_p0.2.2 h72.1 h72.2)) ?_
      refine wv 20 (by kernel_rfl) (fun w1 c1 => (op_field0 rfl (by kernel_rfl))) ?_
      refine wv 21 (by kernel_rfl) (fun w1 c1 => (ol (v := .int .i64 ((ix p0 s69).From)) rfl (by kernel_rfl) ((hr_p0.old c1).cell0 h72.1 h72.2 rfl))) ?_
      refine wq_dec 22 (by kernel_rfl) (fun w1 c1 => (op_lss rfl rfl)) (fun h77 => ?_) (fun h77 => ?_)
      ·skip
       refine wv 23 (by kernel_rfl) (fun w1 c1 => (om (v := .bool true) rfl)) ?_
       refine wk 24 (by kernel_rfl) ?_
       refine wk 25 (by kernel_rfl) ?_
       refine wk 26 (by kernel_rfl) ?_
       refine wk 27 (by kernel_rfl) ?_
       refine wk 28 (by kernel_rfl) ?_
       refine wk 29 (by kernel_rfl) ?_
       refine wv 30 (by kernel_rfl) (fun w1 c1 => (opt (v := .bool true) rfl rfl)) ?_
       refine wv 31 (by kernel_rfl) (fun w1 c1 => (om (v := .bool true) rfl)) ?_
       refine wk 32 (by kernel_rfl) ?_
       refine wk 33 (by kernel_rfl) ?_
       refine wk 34 (by kernel_rfl) ?_
       refine wk 35 (by kernel_rfl) ?_
       refine wk 36 (by kernel_rfl) ?_
       refine wk 37 (by kernel_rfl) ?_
       refine wv 38 (by kernel_rfl) (fun w1 c1 => (opt (v := .bool true) rfl rfl)) ?_
       exact leaf_q (sub_out 22 _ rfl (by kernel_rfl) ⟨(congrArg Value.bool (by rw [decide_eq_true h77] <;> rfl)), trivial⟩)
      ·skip
       refine wv 23 (by kernel_rfl) (fun w1 c1 => (om (v := .bool false) rfl)) ?_
       refine wv 24 (by kernel_rfl) (fun w1 c1 => (om (v := .slice _ _ _) rfl)) ?_
       refine wv 25 (by kernel_rfl) (fun w1 c1 => (om (v := .int .i64 _) rfl)) ?_
       refine wv 26 (by kernel_rfl) (fun w1 c1 => (op_indexA 5 rfl rfl (by kernel_rfl) ((hr_p0.old c1).addr (h73 (by rw [decide_eq_false h77] <;> rfl)).1 (h73 (by rw [decide_eq_false h77] <;> rfl)).2) hz_p0.2.2 (h73 (by rw [decide_eq_false h77] <;> rfl)).1 (h73 (by rw [decide_eq_false h77] <;> rfl)).2)) ?_
       refine wv 27 (by kernel_rfl) (fun w1 c1 => (op_field0 rfl (by kernel_rfl))) ?_
       refine wv 28 (by kernel_rfl) (fun w1 c1 => (ol (v := .int .i64 ((ix p0 s69).From)) rfl (by kernel_rfl) ((hr_p0.old c1).cell0 (h73 (by rw [decide_eq_false h77] <;> rfl)).1 (h73 (by rw [decide_eq_false h77] <;> rfl)).2 rfl))) ?_
       refine wq_dec 29 (by kernel_rfl) (fun w1 c1 => (op_gtr rfl rfl)) (fun h78 => ?_) (fun h78 => ?_)
       ·skip
        refine wv 30 (by kernel_rfl) (fun w1 c1 => (opf (v := .bool true) rfl rfl)) ?_
        refine wv 31 (by kernel_rfl) (fun w1 c1 => (om (v := .bool true) rfl)) ?_
        refine wk 32 (by kernel_rfl) ?_
        refine wk 33 (by kernel_rfl) ?_
        refine wk 34 (by kernel_rfl) ?_
        refine wk 35 (by kernel_rfl) ?_
        refine wk 36 (by kernel_rfl) ?_
        refine wk 37 (by kernel_rfl) ?_
        refine wv 38 (by kernel_rfl) (fun w1 c1 => (opt (v := .bool true) rfl rfl)) ?_
        exact leaf_q (sub_out 22 _ rfl (by kernel_rfl) ⟨(congrArg Value.bool (by rw [decide_eq_false h77, decide_eq_true h78] <;> rfl)), trivial⟩)
       ·skip
        refine wv 30 (by kernel_rfl) (fun w1 c1 => (opf (v := .bool false) rfl rfl)) ?_
        refine wv 31 (by kernel_rfl) (fun w1 c1 => (om (v := .bool false) rfl)) ?_
        refine wv 32 (by kernel_rfl) (fun w1 c1 => (om (v := .slice _ _ _) rfl)) ?_
        refine wv 33 (by kernel_rfl) (fun w1 c1 => (om (v := .int .i64 _) rfl)) ?_
        refine wv 34 (by kernel_rfl) (fun w1 c1 => (op_indexA 5 rfl rfl (by kernel_rfl) ((hr_p0.old c1).addr (h74 (by rw [decide_eq_false h77, decide_eq_false h78] <;> rfl)).1 (h74 (by rw [decide_eq_false h77, decide_eq_false h78] <;> rfl)).2) hz_p0.2.2 (h74 (by rw [decide_eq_false h77, decide_eq_false h78] <;> rfl)).1 (h74 (by rw [decide_eq_false h77, decide_eq_false h78] <;> rfl)).2)) ?_
        refine wv 35 (by kernel_rfl) (fun w1 c1 => (op_loadR [.int .i64 ((ix p0 s69).From), .int .i64 ((ix p0 s69).Base), .int .i64 ((ix p0 s69).Empty), .int .i64 ((ix p0 s69).Kilo), .int .i64 ((ix p0 s69).Free)] rfl (by kernel_rfl) ((hr_p0.old c1).row (h74 (by rw [decide_eq_false h77, decide_eq_false h78] <;> rfl)).1 (h74 (by rw [decide_eq_false h77, decide_eq_false h78] <;> rfl)).2))) ?_
        refine wq_call 36 (by kernel_rfl) (fun w1 c1 => op_call (by kernel_rfl)) (fun w1 c1 => (m_recyclingref53_Usable_ok N w1 (ix p0 s69)  r75 (h76 (by rw [decide_eq_false h77, decide_eq_false h78] <;> rfl))).mono (fun _ _ ⟨_, hx, hu⟩ => ⟨hx, c1.call hu⟩)) ?_
        refine wv 37 (by kernel_rfl) (fun w1 c1 => (op_not rfl)) ?_
        refine wv 38 (by kernel_rfl) (fun w1 c1 => (opf (v := .bool _) rfl rfl)) ?_
        exact leaf_q (sub_out 22 _ rfl (by kernel_rfl) ⟨(congrArg Value.bool (by rw [decide_eq_false h77, decide_eq_false h78] <;> rfl)), trivial⟩)
     refine xn ?_
     refine cm_condB (by kernel_rfl) rfl (fun h79 => ?_) (fun h79 => ?_)
     ·skip
      refine cq ?_
      refine cr ?_
      refine lv 2 (by kernel_rfl) (fun w1 c1 => (oa (v := .int .i64 _) rfl)) ?_
      refine ln ?_
      refine xn ?_
      refine cm_ret ?_
      refine xm_inR ?_
      refine xm_thenR ?_
      refine xm_lret ?_
      refine xm_inR ?_
      refine xm_lret ?_
      exact xm_retT rfl (by kernel_rfl) (show _ = Value.int .i64 _ from rfl) fun w1 c1 => ⟨(), rfl, hsub [] (by kernel_rfl) rfl w1 c1⟩
     ·skip
      refine cm_skip ?_
      refine xm_inN ?_
      refine xn ?_
      refine cr ?_
      refine lv 15 (by kernel_rfl) (fun w1 c1 => (om (v := .int .i64 _) rfl)) ?_
      refine lm_ck (fun h80 => ?_)
      refine lv 16 (by kernel_rfl) (fun w1 c1 => (op_add rfl rfl h80)) ?_
      refine lv 3 (by kernel_rfl) (fun w1 c1 => (oa (v := .int .i64 _) rfl)) ?_
      refine ln ?_
      exact xm_lnext () (sc (by kernel_rfl) rfl (sc (by kernel_rfl) rfl sub_nil)) (hsub [] (by kernel_rfl) rfl)
    ·skip
     refine cm_exit ?_
     refine xm_thenE ?_
     refine xm_lexit ?_
     refine xm_here ?_
     exact xm_lnext () (sc (by kernel_rfl) rfl sub_nil) (hsub [] (by kernel_rfl) rfl)
   intro s43 u44
   refine cm_join (σ := Unit) (ξ := Unit) (fun s105 u106 => []) (fun s105 u106 => []) ?_ ?_
   ·skip
    refine cq ?_
    refine cr ?_
    refine lv 4 (by kernel_rfl) (fun w1 c1 => (oa (v := .int .i64 _) rfl)) ?_
    refine ln ?_
    refine xn ?_
    refine cm_block ?_
    refine cm_loop (σ := Int) (ξ := Unit) (fun s123 u124 => [(0, .slice A_p0 n_p0 c_p0), (4, .int .i64 s123)]) (fun s123 u124 => []) () ?_ ?_ ?_
    ·exact (sc (by kernel_rfl) rfl (sc (by kernel_rfl) rfl sub_nil))
    ·exact hsub [] (by kernel_rfl) rfl
    intro s123 u124
    refine cq ?_
    refine cq ?_
    refine cr ?_
    refine lv 39 (by kernel_rfl) (fun w1 c1 => (om (v := .int .i64 _) rfl)) ?_
    refine lv 40 (by kernel_rfl) (fun w1 c1 => (om (v := .slice _ _ _) rfl)) ?_
    refine lv 41 (by kernel_rfl) (fun w1 c1 => (op_lenN rfl (by kernel_rfl) hz_p0.2.2)) ?_
    refine lv 42 (by kernel_rfl) (fun w1 c1 => (op_lss rfl rfl)) ?_
    refine ln ?_
    refine xn ?_
    refine cm_cond (by kernel_rfl) rfl (fun h125 => ?_) (fun h125 => ?_)
    ·skip
     refine cm_skip ?_
     refine xn ?_
     refine cq ?_
     refine cm_block ?_
     refine cq ?_
     refine cm_ck (fun h126 => ?_)
     refine cm_ck (fun h127 => ?_)
     refine cm_ck (fun h128 => ?_)
     refine cm_drawn [(56, .bool (decide ((ix p0 s123).From ≤ (ix p0 (s123 - (1 : Int))).From)))] (by kernel_rfl) (by kernel_rfl) ?_ ?_
     ·skip
      refine wv 45 (by kernel_rfl) (fun w1 c1 => (om (v := .slice _ _ _) rfl)) ?_
      refine wv 46 (by kernel_rfl) (fun w1 c1 => (om (v := .int .i64 _) rfl)) ?_
      refine wv 47 (by kernel_rfl) (fun w1 c1 => (op_indexA 5 rfl rfl (by kernel_rfl) ((hr_p0.old c1).addr h126.1 h126.2) hz_p0.2.2 h126.1 h126.2)) ?_
      refine wv 48 (by kernel_rfl) (fun w1 c1 => (op_field0 rfl (by kernel_rfl))) ?_
      refine wv 49 (by kernel_rfl) (fun w1 c1 => (ol (v := .int .i64 ((ix p0 s123).From)) rfl (by kernel_rfl) ((hr_p0.old c1).cell0 h126.1 h126.2 rfl))) ?_
      refine wv 50 (by kernel_rfl) (fun w1 c1 => (om (v := .slice _ _ _) rfl)) ?_
      refine wv 51 (by kernel_rfl) (fun w1 c1 => (om (v := .int .i64 _) rfl)) ?_
      refine wv 52 (by kernel_rfl) (fun w1 c1 => (op_sub rfl rfl h127)) ?_
      refine wv 53 (by kernel_rfl) (fun w1 c1 => (op_indexA 5 rfl rfl (by kernel_rfl) ((hr_p0.old c1).addr h128.1 h128.2) hz_p0.2.2 h128.1 h128.2)) ?_
      refine wv 54 (by kernel_rfl) (fun w1 c1 => (op_field0 rfl (by kernel_rfl))) ?_
      refine wv 55 (by kernel_rfl) (fun w1 c1 => (ol (v := .int .i64 ((ix p0 (s123 - (1 : Int))).From)) rfl (by kernel_rfl) ((hr_p0.old c1).cell0 h128.1 h128.2 rfl))) ?_
      refine wv 56 (by kernel_rfl) (fun w1 c1 => (op_leq rfl rfl)) ?_
      exact leaf_q (sub_out 12 _ rfl (by kernel_rfl) ⟨rfl, trivial⟩)
     refine xn ?_
     refine cm_cond (by kernel_rfl) rfl (fun h129 => ?_) (fun h129 => ?_)
     ·skip
      refine cq ?_
      refine cr ?_
      refine lv 2 (by kernel_rfl) (fun w1 c1 => (oa (v := .int .i64 _) rfl)) ?_
      refine ln ?_
      refine xn ?_
      refine cm_ret ?_
      refine xm_inR ?_
      refine xm_thenR ?_
      refine xm_lret ?_
      refine xm_inR ?_
      refine xm_lret ?_
      exact xm_retT rfl (by kernel_rfl) (show _ = Value.int .i64 _ from rfl) fun w1 c1 => ⟨(), rfl, hsub [] (by kernel_rfl) rfl w1 c1⟩
     ·skip
      refine cm_skip ?_
      refine xm_inN ?_
      refine xn ?_
      refine cr ?_
      refine lv 43 (by kernel_rfl) (fun w1 c1 => (om (v := .int .i64 _) rfl)) ?_
      refine lm_ck (fun h130 => ?_)
      refine lv 44 (by kernel_rfl) (fun w1 c1 => (op_add rfl rfl h130)) ?_
      refine lv 4 (by kernel_rfl) (fun w1 c1 => (oa (v := .int .i64 _) rfl)) ?_
      refine ln ?_
      exact xm_lnext () (sc (by kernel_rfl) rfl (sc (by kernel_rfl) rfl sub_nil)) (hsub [] (by kernel_rfl) rfl)
    ·skip
     refine cm_exit ?_
     refine xm_thenE ?_
     refine xm_lexit ?_
     refine xm_here ?_
     exact xm_lnext () sub_nil (hsub [] (by kernel_rfl) rfl)
   intro s105 u106
   refine cq ?_
   refine cr ?_
   refine lv 2 (by kernel_rfl) (fun w1 c1 => (oa (v := .int .i64 _) rfl)) ?_
   refine ln ?_
   refine xn ?_
   refine cm_ret ?_
   exact xm_retT rfl (by kernel_rfl) (show _ = Value.int .i64 _ from rfl) fun w1 c1 => ⟨(), rfl, hsub [] (by kernel_rfl) rfl w1 c1⟩
/-- tariff.At -/
def m_tariff_At (N : Nat) (p0 : (List ApiTariff)) (p1 : Int) : Option (Int × Int) :=
 Option.bind (m_tariff_Check N p0) fun r5 => (if r5 ≠ 0 then
  some (((0 : Int), r5))
 else
  Option.bind (m_tariff_between N (0 : Int) p1 (36524 : Int)) fun r8 => (if (!r8) = true then
   some (((0 : Int), (1 : Int)))
  else
   (andThen
    (ck (I64 ((List.length p0 : Int) - (1 : Int))) (
     (loopM (fun (s45 : Int) =>
      (if 0 ≤ s45 then
       ck ((0 : Int) ≤ s45 ∧ s45 < (List.length p0 : Int)) (
        (if (ix p0 s45).From ≤ p1 then
         some (.done (.done ((s45, (0 : Int)))))
        else
         ck (I64 (s45 - (1 : Int))) (
          some (.next (s45 - (1 : Int))))))
      else
       some (.done (.next ())))) N ((List.length p0 : Int) - (1 : Int)))))
   fun (_s30 : Unit) =>
    some (((0 : Int), (7 : Int))))))
set_option maxHeartbeats 2000000 in
set_option maxRecDepth 20000 in
theorem m_tariff_At_ok (N : Nat) (w0 : World) (p0 : (List ApiTariff)) (p1 : Int) (A_p0 : Option Addr) (n_p0 c_p0 : Nat) (hr_p0 : RdE w0 5 encApiTariff A_p0 p0) (hz_p0 : SW A_p0 n_p0 c_p0 (List.length p0)) (r : Int × Int) (hr : m_tariff_At N p0 p1 = some r) :
  Calls Tryz.prog 33 [.slice A_p0 n_p0 c_p0, .int .i64 p1].toArray w0 fun x w1 => ∃ u, x = .returned ((fun (r : Int × Int) (_u : Unit) => .tuple #[.int .i64 r.1, .int .i64 r.2]) r u) ∧ Hs w0 ((fun (_r : Int × Int) (_u : Unit) => []) r u) w1 := by
 refine calls_cm (n := 31) (R := fun r x w1 => ∃ u, x = .returned ((fun (r : Int × Int) (_u : Unit) => .tuple #[.int .i64 r.1, .int .i64 r.2]) r u) ∧ Hs w0 ((fun (_r : Int × Int) (_u : Unit) => []) r u) w1) Tryz.func33 rfl rfl (Nat.le_of_ble_eq_true rfl) ?_ r hr
 unfold m_tariff_At
 refine cq ?_
 refine cr ?_
 refine lv 4 (by kernel_rfl) (fun w1 c1 => (oa (v := .int .i64 _) rfl)) ?_
 refine lv 5 (by kernel_rfl) (fun w1 c1 => (oa (v := .int .i64 _) rfl)) ?_
 refine ln ?_
 refine xn ?_
 refine cq ?_
 refine cq ?_
 refine cr ?_
 refine lv 8 (by kernel_rfl) (fun w1 c1 => (om (v := .slice _ _ _) rfl)) ?_
 refine lm_call 9 (V := (fun (r : Int) (_u : Unit) => .int .i64 r)) (HR := (fun (_r : Int) (_u : Unit) => [])) (by kernel_rfl) (fun w1 => op_call (by kernel_rfl)) (fun r1 hr1 w1 c1 => m_tariff_Check_ok N w1 p0 A_p0 n_p0 c_p0 (hr_p0.old c1) hz_p0 r1 hr1) ?_
 intro r5 u6
 refine lv 6 (by kernel_rfl) (fun w1 c1 => (oa (v := .int .i64 _) rfl)) ?_
 refine ln ?_
 refine xn ?_
 refine cq ?_
 refine cr ?_
 refine lv 10 (by kernel_rfl) (fun w1 c1 => (om (v := .int .i64 _) rfl)) ?_
 refine lv 11 (by kernel_rfl) (fun w1 c1 => (op_neq rfl rfl)) ?_
 refine ln ?_
 refine xn ?_
 refine cm_cond (by kernel_rfl) rfl (fun h7 => ?_) (fun h7 => ?_)
 ·skip
  refine cq ?_
  refine cr ?_
  refine lv 12 (by kernel_rfl) (fun w1 c1 => (om (v := .int .i64 _) rfl)) ?_
  refine lv 4 (by kernel_rfl) (fun w1 c1 => (oa (v := .int .i64 _) rfl)) ?_
  refine lv 5 (by kernel_rfl) (fun w1 c1 => (oa (v := .int .i64 _) rfl)) ?_
  refine ln ?_
  refine xn ?_
  refine cm_ret ?_
  refine xm_thenR ?_
  exact xm_retTT rfl (by kernel_rfl) (show _ = Value.int .i64 _ from rfl) (by kernel_rfl) (show _ = Value.int .i64 _ from rfl) fun w1 c1 => ⟨(), rfl, hsub [] (by kernel_rfl) rfl w1 c1⟩
 ·skip
  refine cm_skip ?_
  refine xn ?_
  refine cq ?_
  refine cq ?_
  refine cr ?_
  refine lv 13 (by kernel_rfl) (fun w1 c1 => (om (v := .int .i64 _) rfl)) ?_
  refine lm_call 14 (V := (fun (r : Bool) (_u : Unit) => .bool r)) (HR := (fun (_r : Bool) (_u : Unit) => [])) (by kernel_rfl) (fun w1 => op_call (by kernel_rfl)) (fun r1 hr1 w1 c1 => m_tariff_between_ok N w1 (0 : Int) p1 (36524 : Int)  r1 hr1) ?_
  intro r8 u9
  refine lv 15 (by kernel_rfl) (fun w1 c1 => (op_not rfl)) ?_
  refine ln ?_
  refine xn ?_
  refine cm_condB (by kernel_rfl) rfl (fun h10 => ?_) (fun h10 => ?_)
  ·skip
   refine cq ?_
   refine cr ?_
   refine lv 4 (by kernel_rfl) (fun w1 c1 => (oa (v := .int .i64 _) rfl)) ?_
   refine lv 5 (by kernel_rfl) (fun w1 c1 => (oa (v := .int .i64 _) rfl)) ?_
   refine ln ?_
   refine xn ?_
   refine cm_ret ?_
   refine xm_thenR ?_
   exact xm_retTT rfl (by kernel_rfl) (show _ = Value.int .i64 _ from rfl) (by kernel_rfl) (show _ = Value.int .i64 _ from rfl) fun w1 c1 => ⟨(), rfl, hsub [] (by kernel_rfl) rfl w1 c1⟩
  ·skip
   refine cm_skip ?_
   refine xn ?_
   refine cm_join (σ := Unit) (ξ := Unit) (fun s30 u31 => []) (fun s30 u31 => []) ?_ ?_
   ·skip
    refine cq ?_
    refine cr ?_
    refine lv 16 (by kernel_rfl) (fun w1 c1 => (om (v := .slice _ _ _) rfl)) ?_
    refine lv 17 (by kernel_rfl) (fun w1 c1 => (op_lenN rfl (by kernel_rfl) hz_p0.2.2)) ?_
    refine lm_ck (fun h32 => ?_)
    refine lv 18 (by kernel_rfl) (fun w1 c1 => (op_sub rfl rfl h32)) ?_
    refine lv 7 (by kernel_rfl) (fun w1 c1 => (oa (v := .int .i64 _) rfl)) ?_
    refine ln ?_
    refine xn ?_
    refine cm_block ?_
    refine cm_loop (σ := Int) (ξ := Unit) (fun s45 u46 => [(0, .slice A_p0 n_p0 c_p0), (1, .int .i64 p1), (7, .int .i64 s45)]) (fun s45 u46 => []) () ?_ ?_ ?_
    ·exact (sc (by kernel_rfl) rfl (sc (by kernel_rfl) rfl (sc (by kernel_rfl) rfl sub_nil)))
    ·exact hsub [] (by kernel_rfl) rfl
    intro s45 u46
    refine cq ?_
    refine cq ?_
    refine cr ?_
    refine lv 19 (by kernel_rfl) (fun w1 c1 => (om (v := .int .i64 _) rfl)) ?_
    refine lv 20 (by kernel_rfl) (fun w1 c1 => (op_geq rfl rfl)) ?_
    refine ln ?_
    refine xn ?_
    refine cm_cond (by kernel_rfl) rfl (fun h47 => ?_) (fun h47 => ?_)
    ·skip
     refine cm_skip ?_
     refine xn ?_
     refine cq ?_
     refine cm_block ?_
     refine cq ?_
     refine cr ?_
     refine lv 23 (by kernel_rfl) (fun w1 c1 => (om (v := .slice _ _ _) rfl)) ?_
     refine lv 24 (by kernel_rfl) (fun w1 c1 => (om (v := .int .i64 _) rfl)) ?_
     refine lm_ck (fun h48 => ?_)
     refine lv 25 (by kernel_rfl) (fun w1 c1 => (op_indexA 5 rfl rfl (by kernel_rfl) ((hr_p0.old c1).addr h48.1 h48.2) hz_p0.2.2 h48.1 h48.2)) ?_
     refine lv 26 (by kernel_rfl) (fun w1 c1 => (op_field0 rfl (by kernel_rfl))) ?_
     refine lv 27 (by kernel_rfl) (fun w1 c1 => (ol (v := .int .i64 ((ix p0 s45).From)) rfl (by kernel_rfl) ((hr_p0.old c1).cell0 h48.1 h48.2 rfl))) ?_
     refine lv 28 (by kernel_rfl) (fun w1 c1 => (om (v := .int .i64 _) rfl)) ?_
     refine lv 29 (by kernel_rfl) (fun w1 c1 => (op_leq rfl rfl)) ?_
     refine ln ?_
     refine xn ?_
     refine cm_cond (by kernel_rfl) rfl (fun h49 => ?_) (fun h49 => ?_)
     ·skip
      refine cq ?_
      refine cr ?_
      refine lv 30 (by kernel_rfl) (fun w1 c1 => (om (v := .int .i64 _) rfl)) ?_
      refine lv 4 (by kernel_rfl) (fun w1 c1 => (oa (v := .int .i64 _) rfl)) ?_
      refine lv 5 (by kernel_rfl) (fun w1 c1 => (oa (v := .int .i64 _) rfl)) ?_
      refine ln ?_
      refine xn ?_
      refine cm_ret ?_
      refine xm_inR ?_
      refine xm_thenR ?_
      refine xm_lret ?_
      refine xm_inR ?_
      refine xm_lret ?_
      exact xm_retTT rfl (by kernel_rfl) (show _ = Value.int .i64 _ from rfl) (by kernel_rfl) (show _ = Value.int .i64 _ from rfl) fun w1 c1 => ⟨(), rfl, hsub [] (by kernel_rfl) rfl w1 c1⟩
     ·skip
      refine cm_skip ?_
      refine xm_inN ?_
      refine xn ?_
      refine cr ?_
      refine lv 21 (by kernel_rfl) (fun w1 c1 => (om (v := .int .i64 _) rfl)) ?_
      refine lm_ck (fun h50 => ?_)
      refine lv 22 (by kernel_rfl) (fun w1 c1 => (op_sub rfl rfl h50)) ?_
      refine lv 7 (by kernel_rfl) (fun w1 c1 => (oa (v := .int .i64 _) rfl)) ?_
      refine ln ?_
      exact xm_lnext () (sc (by kernel_rfl) rfl (sc (by kernel_rfl) rfl (sc (by kernel_rfl) rfl sub_nil))) (hsub [] (by kernel_rfl) rfl)
    ·skip
     refine cm_exit ?_
     refine xm_thenE ?_
     refine xm_lexit ?_
     refine xm_here ?_
     exact xm_lnext () sub_nil (hsub [] (by kernel_rfl) rfl)
   intro s30 u31
   refine cq ?_
   refine cr ?_
   refine lv 4 (by kernel_rfl) (fun w1 c1 => (oa (v := .int .i64 _) rfl)) ?_
   refine lv 5 (by kernel_rfl) (fun w1 c1 => (oa (v := .int .i64 _) rfl)) ?_
   refine ln ?_
   refine xn ?_
   refine cm_ret ?_
   exact xm_retTT rfl (by kernel_rfl) (show _ = Value.int .i64 _ from rfl) (by kernel_rfl) (show _ = Value.int .i64 _ from rfl) fun w1 c1 => ⟨(), rfl, hsub [] (by kernel_rfl) rfl w1 c1⟩
/-- recyclingref53.At -/
def m_recyclingref53_At (N : Nat) (p0 : (List ApiTariff)) (p1 : Int) : Option (Int × Int) :=
 Option.bind (m_recyclingref53_Check N p0) fun r5 => (if r5 ≠ 0 then
  some (((0 : Int), r5))
 else
  (if ((decide (p1 < 0)) || (decide (36524 < p1))) = true then
   some (((0 : Int), (1 : Int)))
  else
   ck ((0 : Int) ≤ 0 ∧ 0 < (List.length p0 : Int)) (
    (if p1 < (ix p0 0).From then
     some (((0 : Int), (7 : Int)))
    else
     (andThen
      (loopM (fun (s84 : Int × Int) =>
       (if s84.2 < (List.length p0 : Int) then
        (andThen
         (ck ((0 : Int) ≤ s84.2 ∧ s84.2 < (List.length p0 : Int)) (
          (if (ix p0 s84.2).From ≤ p1 then
           some (.next s84.2)
          else
           some (.next s84.1))))
        fun (s89 : Int) =>
         ck (I64 (s84.2 + (1 : Int))) (
          some (.next (s89, (s84.2 + (1 : Int))))))
       else
        some (.done (.next s84.1)))) N ((0 : Int), (0 : Int)))
     fun (s52 : Int) =>
      some ((s52, (0 : Int))))))))
set_option maxHeartbeats 2000000 in
set_option maxRecDepth 20000 in
theorem m_recyclingref53_At_ok (N : Nat) (w0 : World) (p0 : (List ApiTariff)) (p1 : Int) (A_p0 : Option Addr) (n_p0 c_p0 : Nat) (hr_p0 : RdE w0 5 encApiTariff A_p0 p0) (hz_p0 : SW A_p0 n_p0 c_p0 (List.length p0)) (r : Int × Int) (hr : m_recyclingref53_At N p0 p1 = some r) :
  Calls Tryz.prog 22 [.slice A_p0 n_p0 c_p0, .int .i64 p1].toArray w0 fun x w1 => ∃ u, x = .returned ((fun (r : Int × Int) (_u : Unit) => .tuple #[.int .i64 r.1, .int .i64 r.2]) r u) ∧ Hs w0 ((fun (_r : Int × Int) (_u : Unit) => []) r u) w1 := by
 refine calls_cm (n := 41) (R := fun r x w1 => ∃ u, x = .returned ((fun (r : Int × Int) (_u : Unit) => .tuple #[.int .i64 r.1, .int .i64 r.2]) r u) ∧ Hs w0 ((fun (_r : Int × Int) (_u : Unit) => []) r u) w1) Tryz.func22 rfl rfl (Nat.le_of_ble_eq_true rfl) ?_ r hr
 unfold m_recyclingref53_At
 refine cq ?_
 refine cr ?_
 refine lv 4 (by kernel_rfl) (fun w1 c1 => (oa (v := .int .i64 _) rfl)) ?_
 refine lv 5 (by kernel_rfl) (fun w1 c1 => (oa (v := .int .i64 _) rfl)) ?_
 refine ln ?_
 refine xn ?_
 refine cq ?_
 refine cr ?_
 refine lv 9 (by kernel_rfl) (fun w1 c1 => (om (v := .slice _ _ _) rfl)) ?_
 refine lm_call 10 (V := (fun (r : Int) (_u : Unit) => .int .i64 r)) (HR := (fun (_r : Int) (_u : Unit) => [])) (by kernel_rfl) (fun w1 => op_call (by kernel_rfl)) (fun r1 hr1 w1 c1 => m_recyclingref53_Check_ok N w1 p0 A_p0 n_p0 c_p0 (hr_p0.old c1) hz_p0 r1 hr1) ?_
 intro r5 u6
 refine lv 6 (by kernel_rfl) (fun w1 c1 => (oa (v := .int .i64 _) rfl)) ?_
 refine ln ?_
 refine xn ?_
 refine cq ?_
 refine cq ?_
 refine cr ?_
 refine lv 11 (by kernel_rfl) (fun w1 c1 => (om (v := .int .i64 _) rfl)) ?_
 refine lv 12 (by kernel_rfl) (fun w1 c1 => (op_neq rfl rfl)) ?_
 refine ln ?_
 refine xn ?_
 refine cm_cond (by kernel_rfl) rfl (fun h7 => ?_) (fun h7 => ?_)
 ·skip
  refine cq ?_
  refine cr ?_
  refine lv 13 (by kernel_rfl) (fun w1 c1 => (om (v := .int .i64 _) rfl)) ?_
  refine lv 4 (by kernel_rfl) (fun w1 c1 => (oa (v := .int .i64 _) rfl)) ?_
  refine lv 5 (by kernel_rfl) (fun w1 c1 => (oa (v := .int .i64 _) rfl)) ?_
  refine ln ?_
  refine xn ?_
  refine cm_ret ?_
  refine xm_thenR ?_
  exact xm_retTT rfl (by kernel_rfl) (show _ = Value.int .i64 _ from rfl) (by kernel_rfl) (show _ = Value.int .i64 _ from rfl) fun w1 c1 => ⟨(), rfl, hsub [] (by kernel_rfl) rfl w1 c1⟩
 ·skip
  refine cm_skip ?_
  refine xn ?_
  refine cq ?_
  refine cq ?_
  refine cm_cutE [(19, .bool ((decide (p1 < 0)) || (decide (36524 < p1))))] ?_ ?_
  ·skip
   refine wv 14 (by kernel_rfl) (fun w1 c1 => (om (v := .int .i64 _) rfl)) ?_
   refine wq_dec 15 (by kernel_rfl) (fun w1 c1 => (op_lss rfl rfl)) (fun h8 => ?_) (fun h8 => ?_)
   ·skip
    refine wv 16 (by kernel_rfl) (fun w1 c1 => (om (v := .bool true) rfl)) ?_
    refine wk 17 (by kernel_rfl) ?_
    refine wk 18 (by kernel_rfl) ?_
    refine wv 19 (by kernel_rfl) (fun w1 c1 => (opt (v := .bool true) rfl rfl)) ?_
    exact leaf_q (sub_out 6 _ rfl (by kernel_rfl) ⟨(congrArg Value.bool (by rw [decide_eq_true h8] <;> rfl)), trivial⟩)
   ·skip
    refine wv 16 (by kernel_rfl) (fun w1 c1 => (om (v := .bool false) rfl)) ?_
    refine wv 17 (by kernel_rfl) (fun w1 c1 => (om (v := .int .i64 _) rfl)) ?_
    refine wv 18 (by kernel_rfl) (fun w1 c1 => (op_gtr rfl rfl)) ?_
    refine wv 19 (by kernel_rfl) (fun w1 c1 => (opf (v := .bool _) rfl rfl)) ?_
    exact leaf_q (sub_out 6 _ rfl (by kernel_rfl) ⟨(congrArg Value.bool (by rw [decide_eq_false h8] <;> rfl)), trivial⟩)
  refine xn ?_
  refine cm_condB (by kernel_rfl) rfl (fun h9 => ?_) (fun h9 => ?_)
  ·skip
   refine cq ?_
   refine cr ?_
   refine lv 4 (by kernel_rfl) (fun w1 c1 => (oa (v := .int .i64 _) rfl)) ?_
   refine lv 5 (by kernel_rfl) (fun w1 c1 => (oa (v := .int .i64 _) rfl)) ?_
   refine ln ?_
   refine xn ?_
   refine cm_ret ?_
   refine xm_thenR ?_
   exact xm_retTT rfl (by kernel_rfl) (show _ = Value.int .i64 _ from rfl) (by kernel_rfl) (show _ = Value.int .i64 _ from rfl) fun w1 c1 => ⟨(), rfl, hsub [] (by kernel_rfl) rfl w1 c1⟩
  ·skip
   refine cm_skip ?_
   refine xn ?_
   refine cq ?_
   refine cq ?_
   refine cr ?_
   refine lv 20 (by kernel_rfl) (fun w1 c1 => (om (v := .int .i64 _) rfl)) ?_
   refine lv 21 (by kernel_rfl) (fun w1 c1 => (om (v := .slice _ _ _) rfl)) ?_
   refine lm_ck (fun h10 => ?_)
   refine lv 22 (by kernel_rfl) (fun w1 c1 => (op_indexA 5 rfl rfl (by kernel_rfl) ((hr_p0.old c1).addr h10.1 h10.2) hz_p0.2.2 h10.1 h10.2)) ?_
   refine lv 23 (by kernel_rfl) (fun w1 c1 => (op_field0 rfl (by kernel_rfl))) ?_
   refine lv 24 (by kernel_rfl) (fun w1 c1 => (ol (v := .int .i64 ((ix p0 0).From)) rfl (by kernel_rfl) ((hr_p0.old c1).cell0 h10.1 h10.2 rfl))) ?_
   refine lv 25 (by kernel_rfl) (fun w1 c1 => (op_lss rfl rfl)) ?_
   refine ln ?_
   refine xn ?_
   refine cm_cond (by kernel_rfl) rfl (fun h11 => ?_) (fun h11 => ?_)
   ·skip
    refine cq ?_
    refine cr ?_
    refine lv 4 (by kernel_rfl) (fun w1 c1 => (oa (v := .int .i64 _) rfl)) ?_
    refine lv 5 (by kernel_rfl) (fun w1 c1 => (oa (v := .int .i64 _) rfl)) ?_
    refine ln ?_
    refine xn ?_
    refine cm_ret ?_
    refine xm_thenR ?_
    exact xm_retTT rfl (by kernel_rfl) (show _ = Value.int .i64 _ from rfl) (by kernel_rfl) (show _ = Value.int .i64 _ from rfl) fun w1 c1 => ⟨(), rfl, hsub [] (by kernel_rfl) rfl w1 c1⟩
   ·skip
    refine cm_skip ?_
    refine xn ?_
    refine cq ?_
    refine cr ?_
    refine lv 7 (by kernel_rfl) (fun w1 c1 => (oa (v := .int .i64 _) rfl)) ?_
    refine ln ?_
    refine xn ?_
    refine cm_join (σ := Int) (ξ := Unit) (fun s52 u53 => [(7, .int .i64 s52)]) (fun s52 u53 => []) ?_ ?_
    ·skip
     refine cq ?_
     refine cr ?_
     refine lv 8 (by kernel_rfl) (fun w1 c1 => (oa (v := .int .i64 _) rfl)) ?_
     refine ln ?_
     refine xn ?_
     refine cm_block ?_
     refine cm_loop (σ := Int × Int) (ξ := Unit) (fun s84 u85 => [(0, .slice A_p0 n_p0 c_p0), (1, .int .i64 p1), (7, .int .i64 s84.1), (8, .int .i64 s84.2)]) (fun s84 u85 => []) () ?_ ?_ ?_
     ·exact (sc (by kernel_rfl) rfl (sc (by kernel_rfl) rfl (sc (by kernel_rfl) rfl (sc (by kernel_rfl) rfl sub_nil))))
     ·exact hsub [] (by kernel_rfl) rfl
     intro s84 u85
     refine cq ?_
     refine cq ?_
     refine cr ?_
     refine lv 26 (by kernel_rfl) (fun w1 c1 => (om (v := .int .i64 _) rfl)) ?_
     refine lv 27 (by kernel_rfl) (fun w1 c1 => (om (v := .slice _ _ _) rfl)) ?_
     refine lv 28 (by kernel_rfl) (fun w1 c1 => (op_lenN rfl (by kernel_rfl) hz_p0.2.2)) ?_
     refine lv 29 (by kernel_rfl) (fun w1 c1 => (op_lss rfl rfl)) ?_
     refine ln ?_
     refine xn ?_
     refine cm_cond (by kernel_rfl) rfl (fun h86 => ?_) (fun h86 => ?_)
     ·skip
      refine cm_skip ?_
      refine xn ?_
      refine cm_join (σ := Int) (ξ := Unit) (fun s89 u90 => [(0, .slice A_p0 n_p0 c_p0), (1, .int .i64 p1), (7, .int .i64 s89), (8, .int .i64 s84.2)]) (fun s89 u90 => []) ?_ ?_
      ·skip
       refine cm_block ?_
       refine cq ?_
       refine cr ?_
       refine lv 32 (by kernel_rfl) (fun w1 c1 => (om (v := .slice _ _ _) rfl)) ?_
       refine lv 33 (by kernel_rfl) (fun w1 c1 => (om (v := .int .i64 _) rfl)) ?_
       refine lm_ck (fun h91 => ?_)
       refine lv 34 (by kernel_rfl) (fun w1 c1 => (op_indexA 5 rfl rfl (by kernel_rfl) ((hr_p0.old c1).addr h91.1 h91.2) hz_p0.2.2 h91.1 h91.2)) ?_
       refine lv 35 (by kernel_rfl) (fun w1 c1 => (op_field0 rfl (by kernel_rfl))) ?_
       refine lv 36 (by kernel_rfl) (fun w1 c1 => (ol (v := .int .i64 ((ix p0 s84.2).From)) rfl (by kernel_rfl) ((hr_p0.old c1).cell0 h91.1 h91.2 rfl))) ?_
       refine lv 37 (by kernel_rfl) (fun w1 c1 => (om (v := .int .i64 _) rfl)) ?_
       refine lv 38 (by kernel_rfl) (fun w1 c1 => (op_leq rfl rfl)) ?_
       refine ln ?_
       refine xn ?_
       refine cm_cond (by kernel_rfl) rfl (fun h92 => ?_) (fun h92 => ?_)
       ·skip
        refine cr ?_
        refine lv 39 (by kernel_rfl) (fun w1 c1 => (om (v := .int .i64 _) rfl)) ?_
        refine lv 7 (by kernel_rfl) (fun w1 c1 => (oa (v := .int .i64 _) rfl)) ?_
        refine ln ?_
        refine xm_inN ?_
        exact xm_lnext () (sc (by kernel_rfl) rfl (sc (by kernel_rfl) rfl (sc (by kernel_rfl) rfl (sc (by kernel_rfl) rfl sub_nil)))) (hsub [] (by kernel_rfl) rfl)
       ·skip
        refine cm_skip ?_
        refine xm_inN ?_
        exact xm_lnext () (sc (by kernel_rfl) rfl (sc (by kernel_rfl) rfl (sc (by kernel_rfl) rfl (sc (by kernel_rfl) rfl sub_nil)))) (hsub [] (by kernel_rfl) rfl)
      intro s89 u90
      refine cr ?_
      refine lv 30 (by kernel_rfl) (fun w1 c1 => (om (v := .int .i64 _) rfl)) ?_
      refine lm_ck (fun h93 => ?_)
      refine lv 31 (by kernel_rfl) (fun w1 c1 => (op_add rfl rfl h93)) ?_
      refine lv 8 (by kernel_rfl) (fun w1 c1 => (oa (v := .int .i64 _) rfl)) ?_
      refine ln ?_
      exact xm_lnext () (sc (by kernel_rfl) rfl (sc (by kernel_rfl) rfl (sc (by kernel_rfl) rfl (sc (by kernel_rfl) rfl sub_nil)))) (hsub [] (by kernel_rfl) rfl)
     ·skip
      refine cm_exit ?_
      refine xm_thenE ?_
      refine xm_lexit ?_
      refine xm_here ?_
      exact xm_lnext () (sc (by kernel_rfl) rfl sub_nil) (hsub [] (by kernel_rfl) rfl)
    intro s52 u53
    refine cq ?_
    refine cr ?_
    refine lv 40 (by kernel_rfl) (fun w1 c1 => (om (v := .int .i64 _) rfl)) ?_
    refine lv 4 (by kernel_rfl) (fun w1 c1 => (oa (v := .int .i64 _) rfl)) ?_
    refine lv 5 (by kernel_rfl) (fun w1 c1 => (oa (v := .int .i64 _) rfl)) ?_
    refine ln ?_
    refine xn ?_
    refine cm_ret ?_
    exact xm_retTT rfl (by kernel_rfl) (show _ = Value.int .i64 _ from rfl) (by kernel_rfl) (show _ = Value.int .i64 _ from rfl) fun w1 c1 => ⟨(), rfl, hsub [] (by kernel_rfl) rfl w1 c1⟩
/-- tariff.weighed -/
def m_tariff_weighed (_N : Nat) (p0 : ApiSpan) : Option (Bool) :=
 some ((((decide (0 ≤ p0.Lo)) && (decide (p0.Lo ≤ p0.Hi))) && (decide (p0.Hi ≤ 1073741824))))
set_option maxRecDepth 20000 in
theorem m_tariff_weighed_ok (N : Nat) (w0 : World) (p0 : ApiSpan)   (r : Bool) (hr : m_tariff_weighed N p0 = some r) :
  Calls Tryz.prog 123 [.agg #[.int .i64 p0.Lo, .int .i64 p0.Hi]].toArray w0 fun x w1 => ∃ u, x = .returned ((fun (r : Bool) (_u : Unit) => .bool r) r u) ∧ Hs w0 ((fun (_r : Bool) (_u : Unit) => []) r u) w1 := by
 refine calls_cm (n := 18) (R := fun r x w1 => ∃ u, x = .returned ((fun (r : Bool) (_u : Unit) => .bool r) r u) ∧ Hs w0 ((fun (_r : Bool) (_u : Unit) => []) r u) w1) Tryz.func123 rfl rfl (Nat.le_of_ble_eq_true rfl) ?_ r hr
 unfold m_tariff_weighed
 refine cq ?_
 refine cr ?_
 refine lm_box 1 [.int .i64 _, .int .i64 _] (by kernel_rfl) rfl ?_
 intro b5
 refine lv 2 (by kernel_rfl) (fun w1 c1 => (oa (v := .bool false) rfl)) ?_
 refine ln ?_
 refine xn ?_
 refine cq ?_
 refine cm_cutE [(2, .bool (((decide (0 ≤ p0.Lo)) && (decide (p0.Lo ≤ p0.Hi))) && (decide (p0.Hi ≤ 1073741824))))] ?_ ?_
 ·skip
  refine wv 3 (by kernel_rfl) (fun w1 c1 => (oF (m := 0) (k := 0) rfl (by kernel_rfl) rfl)) ?_
  refine wv 4 (by kernel_rfl) (fun w1 c1 => (ol rfl (by kernel_rfl) (c1.cell 0 (u := .int .i64 _) rfl rfl))) ?_
  refine wq_dec 5 (by kernel_rfl) (fun w1 c1 => (op_leq rfl rfl)) (fun h6 => ?_) (fun h6 => ?_)
  ·skip
   refine wv 6 (by kernel_rfl) (fun w1 c1 => (om (v := .bool true) rfl)) ?_
   refine wv 7 (by kernel_rfl) (fun w1 c1 => (oF (m := 0) (k := 0) rfl (by kernel_rfl) rfl)) ?_
   refine wv 8 (by kernel_rfl) (fun w1 c1 => (ol rfl (by kernel_rfl) (c1.cell 0 (u := .int .i64 _) rfl rfl))) ?_
   refine wv 9 (by kernel_rfl) (fun w1 c1 => (oF (m := 1) (k := 1) rfl (by kernel_rfl) rfl)) ?_
   refine wv 10 (by kernel_rfl) (fun w1 c1 => (ol rfl (by kernel_rfl) (c1.cell 0 (u := .int .i64 _) rfl rfl))) ?_
   refine wq_dec 11 (by kernel_rfl) (fun w1 c1 => (op_leq rfl rfl)) (fun h7 => ?_) (fun h7 => ?_)
   ·skip
    refine wv 12 (by kernel_rfl) (fun w1 c1 => (opt (v := .bool true) rfl rfl)) ?_
    refine wv 13 (by kernel_rfl) (fun w1 c1 => (om (v := .bool true) rfl)) ?_
    refine wv 14 (by kernel_rfl) (fun w1 c1 => (oF (m := 1) (k := 1) rfl (by kernel_rfl) rfl)) ?_
    refine wv 15 (by kernel_rfl) (fun w1 c1 => (ol rfl (by kernel_rfl) (c1.cell 0 (u := .int .i64 _) rfl rfl))) ?_
    refine wv 16 (by kernel_rfl) (fun w1 c1 => (op_leq rfl rfl)) ?_
    refine wv 17 (by kernel_rfl) (fun w1 c1 => (opt (v := .bool _) rfl rfl)) ?_
    refine wv 2 (by kernel_rfl) (fun w1 c1 => (oa (v := .bool _) rfl)) ?_
    exact leaf_q (sub_out 16 _ rfl (by kernel_rfl) ⟨(congrArg Value.bool (by rw [decide_eq_true h6, decide_eq_true h7] <;> rfl)), trivial⟩)
   ·skip
    refine wv 12 (by kernel_rfl) (fun w1 c1 => (opt (v := .bool false) rfl rfl)) ?_
    refine wv 13 (by kernel_rfl) (fun w1 c1 => (om (v := .bool false) rfl)) ?_
    refine wk 14 (by kernel_rfl) ?_
    refine wk 15 (by kernel_rfl) ?_
    refine wk 16 (by kernel_rfl) ?_
    refine wv 17 (by kernel_rfl) (fun w1 c1 => (opf (v := .bool false) rfl rfl)) ?_
    refine wv 2 (by kernel_rfl) (fun w1 c1 => (oa (v := .bool false) rfl)) ?_
    exact leaf_q (sub_out 16 _ rfl (by kernel_rfl) ⟨(congrArg Value.bool (by rw [decide_eq_true h6, decide_eq_false h7] <;> rfl)), trivial⟩)
  ·skip
   refine wv 6 (by kernel_rfl) (fun w1 c1 => (om (v := .bool false) rfl)) ?_
   refine wk 7 (by kernel_rfl) ?_
   refine wk 8 (by kernel_rfl) ?_
   refine wk 9 (by kernel_rfl) ?_
   refine wk 10 (by kernel_rfl) ?_
   refine wk 11 (by kernel_rfl) ?_
   refine wv 12 (by kernel_rfl) (fun w1 c1 => (opf (v := .bool false) rfl rfl)) ?_
   refine wv 13 (by kernel_rfl) (fun w1 c1 => (om (v := .bool false) rfl)) ?_
   refine wk 14 (by kernel_rfl) ?_
   refine wk 15 (by kernel_rfl) ?_
   refine wk 16 (by kernel_rfl) ?_
   refine wv 17 (by kernel_rfl) (fun w1 c1 => (opf (v := .bool false) rfl rfl)) ?_
   refine wv 2 (by kernel_rfl) (fun w1 c1 => (oa (v := .bool false) rfl)) ?_
   exact leaf_q (sub_out 16 _ rfl (by kernel_rfl) ⟨(congrArg Value.bool (by rw [decide_eq_false h6] <;> rfl)), trivial⟩)
 refine xn ?_
 refine cm_ret ?_
 exact xm_retT rfl (by kernel_rfl) (show _ = Value.bool _ from rfl) fun w1 c1 => ⟨(), rfl, hsub [] (by kernel_rfl) rfl w1 c1⟩
/-- tariff.Weight -/
def m_tariff_Weight (N : Nat) (p0 : ApiTariff) (p1 : ApiSpan) : Option (Int × Int) :=
 Option.bind (m_tariff_usable N p0) fun r7 => callIf ((!(!r7)) = true) (m_tariff_weighed N p1) fun r9 => (if ((!r7) || (!r9)) = true then
  some (((0 : Int), (1 : Int)))
 else
  ck (I64 p1.Lo) (
   ck (I64 ((Int.tdiv p1.Lo 1000) - p0.Free)) (
    some (((max (0 : Int) ((Int.tdiv p1.Lo 1000) - p0.Free)), (0 : Int))))))
set_option maxRecDepth 20000 in
theorem m_tariff_Weight_ok (N : Nat) (w0 : World) (p0 : ApiTariff) (p1 : ApiSpan)   (r : Int × Int) (hr : m_tariff_Weight N p0 p1 = some r) :
  Calls Tryz.prog 121 [.agg #[.int .i64 p0.From, .int .i64 p0.Base, .int .i64 p0.Empty, .int .i64 p0.Kilo, .int .i64 p0.Free], .agg #[.int .i64 p1.Lo, .int .i64 p1.Hi]].toArray w0 fun x w1 => ∃ u, x = .returned ((fun (r : Int × Int) (_u : Unit) => .tuple #[.int .i64 r.1, .int .i64 r.2]) r u) ∧ Hs w0 ((fun (_r : Int × Int) (_u : Unit) => []) r u) w1 := by
 refine calls_cm (n := 21) (R := fun r x w1 => ∃ u, x = .returned ((fun (r : Int × Int) (_u : Unit) => .tuple #[.int .i64 r.1, .int .i64 r.2]) r u) ∧ Hs w0 ((fun (_r : Int × Int) (_u : Unit) => []) r u) w1) Tryz.func121 rfl rfl (Nat.le_of_ble_eq_true rfl) ?_ r hr
 unfold m_tariff_Weight
 refine cq ?_
 refine cr ?_
 refine lm_box 2 [.int .i64 _, .int .i64 _, .int .i64 _, .int .i64 _, .int .i64 _] (by kernel_rfl) rfl ?_
 intro b5
 refine lm_box 3 [.int .i64 _, .int .i64 _] (by kernel_rfl) rfl ?_
 intro b6
 refine lv 4 (by kernel_rfl) (fun w1 c1 => (oa (v := .int .i64 _) rfl)) ?_
 refine lv 5 (by kernel_rfl) (fun w1 c1 => (oa (v := .int .i64 _) rfl)) ?_
 refine ln ?_
 refine xn ?_
 refine cq ?_
 refine cq ?_
 refine cm_bind fun r7 h8 => ?_
 refine cm_callIf fun r9 h10 => ?_
 refine cm_cutE [(13, .bool ((!r7) || (!r9)))] ?_ ?_
 ·skip
  refine wv 6 (by kernel_rfl) (fun w1 c1 => (op_loadR [.int .i64 _, .int .i64 _, .int .i64 _, .int .i64 _, .int .i64 _] rfl (by kernel_rfl) (c1.cells 1 rfl rfl))) ?_
  refine wq_callb 7 (by kernel_rfl) (fun w1 c1 => op_call (by kernel_rfl)) (fun w1 c1 => (m_tariff_usable_ok N w1 p0  r7 h8).mono (fun _ _ ⟨_, hx, hu⟩ => ⟨hx, c1.call hu⟩)) (fun h11 => ?_) (fun h11 => ?_)
  ·skip
   refine wv 8 (by kernel_rfl) (fun w1 c1 => (op_nott rfl)) ?_
   refine wv 9 (by kernel_rfl) (fun w1 c1 => (om (v := .bool false) rfl)) ?_
   refine wv 10 (by kernel_rfl) (fun w1 c1 => (op_loadR [.int .i64 _, .int .i64 _] rfl (by kernel_rfl) (c1.cells 0 rfl rfl))) ?_
   refine wq_call 11 (by kernel_rfl) (fun w1 c1 => op_call (by kernel_rfl)) (fun w1 c1 => (m_tariff_weighed_ok N w1 p1  r9 (h10 (by rw [h11] <;> rfl))).mono (fun _ _ ⟨_, hx, hu⟩ => ⟨hx, c1.call hu⟩)) ?_
   refine wv 12 (by kernel_rfl) (fun w1 c1 => (op_not rfl)) ?_
   refine wv 13 (by kernel_rfl) (fun w1 c1 => (opf (v := .bool _) rfl rfl)) ?_
   exact leaf_q (sub_out 8 _ rfl (by kernel_rfl) ⟨(congrArg Value.bool (by rw [h11] <;> rfl)), trivial⟩)
  ·skip
   refine wv 8 (by kernel_rfl) (fun w1 c1 => (op_notf rfl)) ?_
   refine wv 9 (by kernel_rfl) (fun w1 c1 => (om (v := .bool true) rfl)) ?_
   refine wk 10 (by kernel_rfl) ?_
   refine wk 11 (by kernel_rfl) ?_
   refine wk 12 (by kernel_rfl) ?_
   refine wv 13 (by kernel_rfl) (fun w1 c1 => (opt (v := .bool true) rfl rfl)) ?_
   exact leaf_q (sub_out 8 _ rfl (by kernel_rfl) ⟨(congrArg Value.bool (by rw [h11] <;> rfl)), trivial⟩)
 refine xn ?_
 refine cm_condB (by kernel_rfl) rfl (fun h12 => ?_) (fun h12 => ?_)
 ·skip
  refine cq ?_
  refine cr ?_
  refine lv 4 (by kernel_rfl) (fun w1 c1 => (oa (v := .int .i64 _) rfl)) ?_
  refine lv 5 (by kernel_rfl) (fun w1 c1 => (oa (v := .int .i64 _) rfl)) ?_
  refine ln ?_
  refine xn ?_
  refine cm_ret ?_
  refine xm_thenR ?_
  exact xm_retTT rfl (by kernel_rfl) (show _ = Value.int .i64 _ from rfl) (by kernel_rfl) (show _ = Value.int .i64 _ from rfl) fun w1 c1 => ⟨(), rfl, hsub [] (by kernel_rfl) rfl w1 c1⟩
 ·skip
  refine cm_skip ?_
  refine xn ?_
  refine cq ?_
  refine cr ?_
  refine lv 14 (by kernel_rfl) (fun w1 c1 => (oF (m := 0) (k := 0) rfl (by kernel_rfl) rfl)) ?_
  refine lv 15 (by kernel_rfl) (fun w1 c1 => (ol rfl (by kernel_rfl) (c1.cell 0 (u := .int .i64 _) rfl rfl))) ?_
  refine lm_ck (fun h13 => ?_)
  refine lv 16 (by kernel_rfl) (fun w1 c1 => (op_quoK rfl rfl (by kernel_rfl) h13)) ?_
  refine lv 17 (by kernel_rfl) (fun w1 c1 => (oF (m := 4) (k := 4) rfl (by kernel_rfl) rfl)) ?_
  refine lv 18 (by kernel_rfl) (fun w1 c1 => (ol rfl (by kernel_rfl) (c1.cell 1 (u := .int .i64 _) rfl rfl))) ?_
  refine lm_ck (fun h14 => ?_)
  refine lv 19 (by kernel_rfl) (fun w1 c1 => (op_sub rfl rfl h14)) ?_
  refine lv 20 (by kernel_rfl) (fun w1 c1 => (op_max rfl rfl)) ?_
  refine lv 4 (by kernel_rfl) (fun w1 c1 => (oa (v := .int .i64 _) rfl)) ?_
  refine lv 5 (by kernel_rfl) (fun w1 c1 => (oa (v := .int .i64 _) rfl)) ?_
  refine ln ?_
  refine xn ?_
  refine cm_ret ?_
  exact xm_retTT rfl (by kernel_rfl) (show _ = Value.int .i64 _ from rfl) (by kernel_rfl) (show _ = Value.int .i64 _ from rfl) fun w1 c1 => ⟨(), rfl, hsub [] (by kernel_rfl) rfl w1 c1⟩
/-- tariff.priced -/
def m_tariff_priced (_N : Nat) (p0 : Int) : Option (Int) :=
 some (p0)
set_option maxRecDepth 20000 in
theorem m_tariff_priced_ok (N : Nat) (w0 w : World) (F : List HE) (p0 : Int)   (hw : Hs w0 ([] ++ [packE w0.heap.size F]) w) (r : Int) (hr : m_tariff_priced N p0 = some r) :
  Calls Tryz.prog 122 [.int .i64 p0].toArray w fun x w1 => ∃ u, x = .returned ((fun (_r : Int) (u : Nat) => (.func (.func 124) #[] #[.pointer (some ⟨u, 0, none⟩)] : Value)) r u) ∧ Hs w0 ((fun (r : Int) (u : Nat) => [blkE u 3 [.int .i64 r]]) r u ++ [packE w0.heap.size F]) w1 := by
 refine calls_cmH (n := 4) (R := fun r x w1 => ∃ u, x = .returned ((fun (_r : Int) (u : Nat) => (.func (.func 124) #[] #[.pointer (some ⟨u, 0, none⟩)] : Value)) r u) ∧ Hs w0 ((fun (r : Int) (u : Nat) => [blkE u 3 [.int .i64 r]]) r u ++ [packE w0.heap.size F]) w1) Tryz.func122 rfl rfl (Nat.le_of_ble_eq_true rfl) ?_ hw r hr
 unfold m_tariff_priced
 refine cq ?_
 refine cr ?_
 refine lm_box 1 [.int .i64 _] (by kernel_rfl) rfl ?_
 intro b6
 refine lv 2 (by kernel_rfl) (fun w1 c1 => (oa (v := .nilFunc) rfl)) ?_
 refine ln ?_
 refine xn ?_
 refine cq ?_
 refine cr ?_
 refine lv 3 (by kernel_rfl) (fun w1 c1 => (op_makeFuncC [.pointer (some ⟨_, _, _⟩)] rfl)) ?_
 refine lv 2 (by kernel_rfl) (fun w1 c1 => (oa (v := .func _ _ _) rfl)) ?_
 refine ln ?_
 refine xn ?_
 refine cm_ret ?_
 exact xm_retT rfl (by kernel_rfl) (show _ = Value.func _ _ _ from rfl) fun w1 c1 => ⟨b6, rfl, hsub [0, 1] (by kernel_rfl) rfl w1 c1⟩
/-- tariff.priced$1 -/
def m_tariff_priced_1 (_N : Nat) (p0 : Int) (p1 : Int) (p2 : Int) (q0 : Int) : Option (ApiItem) :=
 ck (I64 (p1 * p2)) (
  some ((ApiItem.mk q0 p0 p1 p2 (p1 * p2))))
set_option maxRecDepth 20000 in
theorem m_tariff_priced_1_ok (N : Nat) (w0 : World) (p0 : Int) (p1 : Int) (p2 : Int) (q0 : Int) (b_q0 : Nat) (hb_q0 : Blk w0 b_q0 3 [.int .i64 q0]) (r : ApiItem) (hr : m_tariff_priced_1 N p0 p1 p2 q0 = some r) :
  Calls Tryz.prog 124 [.int .i64 p0, .int .i64 p1, .int .i64 p2, .pointer (some ⟨b_q0, 0, none⟩)].toArray w0 fun x w1 => ∃ u, x = .returned ((fun (r : ApiItem) (_u : Unit) => .agg #[.int .i64 r.Kind, .int .i64 r.Ref, .int .i64 r.Count, .int .i64 r.Price, .int .i64 r.Amount]) r u) ∧ Hs w0 ((fun (_r : ApiItem) (_u : Unit) => []) r u) w1 := by
 refine calls_cm (n := 16) (R := fun r x w1 => ∃ u, x = .returned ((fun (r : ApiItem) (_u : Unit) => .agg #[.int .i64 r.Kind, .int .i64 r.Ref, .int .i64 r.Count, .int .i64 r.Price, .int .i64 r.Amount]) r u) ∧ Hs w0 ((fun (_r : ApiItem) (_u : Unit) => []) r u) w1) Tryz.func124 rfl rfl (Nat.le_of_ble_eq_true rfl) ?_ r hr
 unfold m_tariff_priced_1
 refine cq ?_
 refine cr ?_
 refine lm_alloc 7 [.int .i64 0, .int .i64 0, .int .i64 0, .int .i64 0, .int .i64 0] (v := .agg #[.int .i64 0, .int .i64 0, .int .i64 0, .int .i64 0, .int .i64 0]) (by kernel_rfl) (by kernel_rfl) rfl ?_
 intro b5
 refine ln ?_
 refine xn ?_
 refine cq ?_
 refine cr ?_
 refine lv 8 (by kernel_rfl) (fun w1 c1 => (ol rfl (by kernel_rfl) (c1.ocell (hb_q0.at_ 0 (u := .int .i64 _) rfl)))) ?_
 refine lv 9 (by kernel_rfl) (fun w1 c1 => (om (v := .int .i64 _) rfl)) ?_
 refine lv 10 (by kernel_rfl) (fun w1 c1 => (om (v := .int .i64 _) rfl)) ?_
 refine lv 11 (by kernel_rfl) (fun w1 c1 => (om (v := .int .i64 _) rfl)) ?_
 refine lv 12 (by kernel_rfl) (fun w1 c1 => (om (v := .int .i64 _) rfl)) ?_
 refine lv 13 (by kernel_rfl) (fun w1 c1 => (om (v := .int .i64 _) rfl)) ?_
 refine lm_ck (fun h6 => ?_)
 refine lv 14 (by kernel_rfl) (fun w1 c1 => (op_mul rfl rfl h6)) ?_
 refine lv 15 (by kernel_rfl) (fun w1 c1 => (op_build (z := [.int .i64 0, .int .i64 0, .int .i64 0, .int .i64 0, .int .i64 0]) (tab := [(0, 1), (1, 1), (2, 1), (3, 1), (4, 1)]) (cs := [.int .i64 _, .int .i64 _, .int .i64 _, .int .i64 _, .int .i64 _]) [(0, [.int .i64 _]), (1, [.int .i64 _]), (2, [.int .i64 _]), (3, [.int .i64 _]), (4, [.int .i64 _])] (by kernel_rfl) (by kernel_rfl) (fillOk_cons rfl rfl rfl (fillOk_cons rfl rfl rfl (fillOk_cons rfl rfl rfl (fillOk_cons rfl rfl rfl (fillOk_cons rfl rfl rfl fillOk_nil))))) rfl)) ?_
 refine lm_storeA 0 [.int .i64 _, .int .i64 _, .int .i64 _, .int .i64 _, .int .i64 _] [_, _, _, _, _] (H' := [blkE _ _ [_, _, _, _, _]]) (by kernel_rfl) rfl rfl (by kernel_rfl) rfl rfl (by kernel_rfl) rfl rfl ?_
 refine ln ?_
 refine xn ?_
 refine cm_ret ?_
 exact xm_retC rfl (by kernel_rfl) (show _ = Value.pointer (some ⟨_, 0, none⟩) from rfl) (by kernel_rfl) (fun w1 c1 => c1.cells 0 (ds := [.int .i64 _, .int .i64 _, .int .i64 _, .int .i64 _, .int .i64 _]) rfl rfl) fun w1 c1 => ⟨(), rfl, hsub [] (by kernel_rfl) rfl w1 c1⟩
/-- tariff.Items -/
def m_tariff_Items (N : Nat) (p0 : ApiTariff) (p1 : ApiEmptying) : Option ((List ApiItem) × Int) :=
 Option.bind (m_tariff_Weight N p0 p1.Mass) fun r7 => callIf ((!(decide (r7.2 ≠ 0))) = true) (m_tariff_between N (1 : Int) p1.ID (1000000 : Int)) fun r9 => (if ((decide (r7.2 ≠ 0)) || (!r9)) = true then
  some ((([] : List ApiItem), (1 : Int)))
 else
  Option.bind (m_tariff_priced N (2 : Int)) fun r13 => Option.bind (m_tariff_priced_1 N p1.ID (1 : Int) p0.Empty r13) fun r15 => (andThen
   (if 0 < r7.1 then
    Option.bind (m_tariff_priced N (3 : Int)) fun r109 => Option.bind (m_tariff_priced_1 N p1.ID r7.1 p0.Kilo r109) fun r111 => ck ((List.length ([r15]) + List.length ([r111])) * 40 ≤ 140737488355328) (
     some (.next (([r15]) ++ ([r111]))))
   else
    some (.next ([r15])))
  fun (s106 : (List ApiItem)) =>
   some ((s106, (0 : Int)))))
set_option maxHeartbeats 2000000 in
set_option maxRecDepth 20000 in
theorem m_tariff_Items_ok (N : Nat) (w0 : World) (p0 : ApiTariff) (p1 : ApiEmptying)   (r : (List ApiItem) × Int) (hr : m_tariff_Items N p0 p1 = some r) :
  Calls Tryz.prog 120 [.agg #[.int .i64 p0.From, .int .i64 p0.Base, .int .i64 p0.Empty, .int .i64 p0.Kilo, .int .i64 p0.Free], .agg #[.int .i64 p1.ID, .int .i64 p1.Container, .int .i64 p1.Vehicle, .int .i64 p1.At, .int .i64 p1.Mass.Lo, .int .i64 p1.Mass.Hi, .bool p1.Void]].toArray w0 fun x w1 => ∃ u, x = .returned ((fun (r : (List ApiItem) × Int) (u : (Option Addr) × Nat × Nat) => .tuple #[.slice u.1 u.2.1 u.2.2, .int .i64 r.2]) r u) ∧ Hs w0 ((fun (r : (List ApiItem) × Int) (u : (Option Addr) × Nat × Nat) => [ownE 66 5 encApiItem u.1 u.2.1 u.2.2 r.1]) r u) w1 := by
 refine calls_cm (n := 44) (R := fun r x w1 => ∃ u, x = .returned ((fun (r : (List ApiItem) × Int) (u : (Option Addr) × Nat × Nat) => .tuple #[.slice u.1 u.2.1 u.2.2, .int .i64 r.2]) r u) ∧ Hs w0 ((fun (r : (List ApiItem) × Int) (u : (Option Addr) × Nat × Nat) => [ownE 66 5 encApiItem u.1 u.2.1 u.2.2 r.1]) r u) w1) Tryz.func120 rfl rfl (Nat.le_of_ble_eq_true rfl) ?_ r hr
 unfold m_tariff_Items
 refine cq ?_
 refine cr ?_
 refine lm_box 2 [.int .i64 _, .int .i64 _, .int .i64 _, .int .i64 _, .int .i64 _] (by kernel_rfl) rfl ?_
 intro b5
 refine lm_box 3 [.int .i64 _, .int .i64 _, .int .i64 _, .int .i64 _, .int .i64 _, .int .i64 _, .bool _] (by kernel_rfl) rfl ?_
 intro b6
 refine lv 4 (by kernel_rfl) (fun w1 c1 => (oa (v := .slice _ _ _) rfl)) ?_
 refine lv 5 (by kernel_rfl) (fun w1 c1 => (oa (v := .int .i64 _) rfl)) ?_
 refine ln ?_
 refine xn ?_
 refine cq ?_
 refine cr ?_
 refine lv 10 (by kernel_rfl) (fun w1 c1 => (op_loadR [.int .i64 _, .int .i64 _, .int .i64 _, .int .i64 _, .int .i64 _] rfl (by kernel_rfl) (c1.cells 1 rfl rfl))) ?_
 refine lv 11 (by kernel_rfl) (fun w1 c1 => (oF (m := 4) (k := 4) rfl (by kernel_rfl) rfl)) ?_
 refine lv 12 (by kernel_rfl) (fun w1 c1 => (op_loadR [.int .i64 _, .int .i64 _] rfl (by kernel_rfl) (c1.cells 0 rfl rfl))) ?_
 refine lm_call 13 (V := (fun (r : Int × Int) (_u : Unit) => .tuple #[.int .i64 r.1, .int .i64 r.2])) (HR := (fun (_r : Int × Int) (_u : Unit) => [])) (by kernel_rfl) (fun w1 => op_call (by kernel_rfl)) (fun r1 hr1 w1 c1 => m_tariff_Weight_ok N w1 p0 p1.Mass  r1 hr1) ?_
 intro r7 u8
 refine lv 9 (by kernel_rfl) (fun w1 c1 => (om (v := .tuple _) rfl)) ?_
 refine lv 14 (by kernel_rfl) (fun w1 c1 => (op_extract (v := .int .i64 _) rfl rfl)) ?_
 refine lv 15 (by kernel_rfl) (fun w1 c1 => (op_extract (v := .int .i64 _) rfl rfl)) ?_
 refine lv 6 (by kernel_rfl) (fun w1 c1 => (oa (v := .int .i64 _) rfl)) ?_
 refine lv 7 (by kernel_rfl) (fun w1 c1 => (oa (v := .int .i64 _) rfl)) ?_
 refine ln ?_
 refine xn ?_
 refine cq ?_
 refine cq ?_
 refine cm_callIf fun r9 h10 => ?_
 refine cm_cutE [(23, .bool ((decide (r7.2 ≠ 0)) || (!r9)))] ?_ ?_
 ·skip
  refine wv 16 (by kernel_rfl) (fun w1 c1 => (om (v := .int .i64 _) rfl)) ?_
  refine wq_dec 17 (by kernel_rfl) (fun w1 c1 => (op_neq rfl rfl)) (fun h11 => ?_) (fun h11 => ?_)
  ·skip
   refine wv 18 (by kernel_rfl) (fun w1 c1 => (om (v := .bool true) rfl)) ?_
   refine wk 19 (by kernel_rfl) ?_
   refine wk 20 (by kernel_rfl) ?_
   refine wk 21 (by kernel_rfl) ?_
   refine wk 22 (by kernel_rfl) ?_
   refine wv 23 (by kernel_rfl) (fun w1 c1 => (opt (v := .bool true) rfl rfl)) ?_
   exact leaf_q (sub_out 8 _ rfl (by kernel_rfl) ⟨(congrArg Value.bool (by rw [decide_eq_true h11] <;> rfl)), trivial⟩)
  ·skip
   refine wv 18 (by kernel_rfl) (fun w1 c1 => (om (v := .bool false) rfl)) ?_
   refine wv 19 (by kernel_rfl) (fun w1 c1 => (oF (m := 0) (k := 0) rfl (by kernel_rfl) rfl)) ?_
   refine wv 20 (by kernel_rfl) (fun w1 c1 => (ol rfl (by kernel_rfl) (c1.cell 0 (u := .int .i64 _) rfl rfl))) ?_
   refine wq_call 21 (by kernel_rfl) (fun w1 c1 => op_call (by kernel_rfl)) (fun w1 c1 => (m_tariff_between_ok N w1 (1 : Int) p1.ID (1000000 : Int)  r9 (h10 (by rw [decide_eq_false h11] <;> rfl))).mono (fun _ _ ⟨_, hx, hu⟩ => ⟨hx, c1.call hu⟩)) ?_
   refine wv 22 (by kernel_rfl) (fun w1 c1 => (op_not rfl)) ?_
   refine wv 23 (by kernel_rfl) (fun w1 c1 => (opf (v := .bool _) rfl rfl)) ?_
   exact leaf_q (sub_out 8 _ rfl (by kernel_rfl) ⟨(congrArg Value.bool (by rw [decide_eq_false h11] <;> rfl)), trivial⟩)
 refine xn ?_
 refine cm_condB (by kernel_rfl) rfl (fun h12 => ?_) (fun h12 => ?_)
 ·skip
  refine cq ?_
  refine cr ?_
  refine lv 4 (by kernel_rfl) (fun w1 c1 => (oa (v := .slice _ _ _) rfl)) ?_
  refine lv 5 (by kernel_rfl) (fun w1 c1 => (oa (v := .int .i64 _) rfl)) ?_
  refine ln ?_
  refine xn ?_
  refine cm_ret ?_
  refine xm_thenR ?_
  refine xm_nilrow 66 5 encApiItem ?_
  exact xm_retTT rfl (by kernel_rfl) (show _ = Value.slice _ _ _ from rfl) (by kernel_rfl) (show _ = Value.int .i64 _ from rfl) fun w1 c1 => ⟨(none, 0, 0), rfl, hsub [0] (by kernel_rfl) rfl w1 c1⟩
 ·skip
  refine cm_skip ?_
  refine xn ?_
  refine cq ?_
  refine cm_bind fun r13 h14 => ?_
  refine cm_bind fun r15 h16 => ?_
  refine cm_held (ξ := (Option Addr) × Nat × Nat) (fun u35 => [(2, .pointer (some ⟨b5, 0, none⟩)), (3, .pointer (some ⟨b6, 0, none⟩)), (6, .int .i64 r7.1), (8, .slice u35.1 u35.2.1 u35.2.2)]) (fun u35 => [blkE b5 64 [.int .i64 p0.From, .int .i64 p0.Base, .int .i64 p0.Empty, .int .i64 p0.Kilo, .int .i64 p0.Free], blkE b6 55 [.int .i64 p1.ID, .int .i64 p1.Container, .int .i64 p1.Vehicle, .int .i64 p1.At, .int .i64 p1.Mass.Lo, .int .i64 p1.Mass.Hi, .bool p1.Void], ownE 66 5 encApiItem u35.1 u35.2.1 u35.2.2 ([r15])]) [blkE b6 55 [.int .i64 p1.ID, .int .i64 p1.Container, .int .i64 p1.Vehicle, .int .i64 p1.At, .int .i64 p1.Mass.Lo, .int .i64 p1.Mass.Hi, .bool p1.Void], blkE b5 64 [.int .i64 p0.From, .int .i64 p0.Base, .int .i64 p0.Empty, .int .i64 p0.Kilo, .int .i64 p0.Free]] 8 (by kernel_rfl) (by rfl) (hsub [0, 1] (by kernel_rfl) (by rfl)) ?_ ?_
  ·intro w37 c38
   refine wh_take 1 25 rfl (by kernel_rfl) (by kernel_rfl) (fun w2 c2 => (oF (m := 0) (k := 0) rfl (by kernel_rfl) rfl)) (hsub [0, 1] (by kernel_rfl) rfl _ c38) ?_
   refine wh_take 2 26 rfl (by kernel_rfl) (by kernel_rfl) (fun w2 c2 => (ol rfl (by kernel_rfl) (c2.cell 0 (u := .int .i64 _) rfl rfl))) (hsub [0, 1] (by kernel_rfl) rfl _ c38) ?_
   refine wh_take 3 27 rfl (by kernel_rfl) (by kernel_rfl) (fun w2 c2 => (oF (m := 2) (k := 2) rfl (by kernel_rfl) rfl)) (hsub [0, 1] (by kernel_rfl) rfl _ c38) ?_
   refine wh_take 4 28 rfl (by kernel_rfl) (by kernel_rfl) (fun w2 c2 => (ol rfl (by kernel_rfl) (c2.cell 1 (u := .int .i64 _) rfl rfl))) (hsub [0, 1] (by kernel_rfl) rfl _ c38) ?_
   refine wh_ready [0] (by kernel_rfl) rfl ⟨?_, trivial⟩
   refine ws_callH 24 (V := fun (u : Nat) => (fun (_r : Int) (u : Nat) => (.func (.func 124) #[] #[.pointer (some ⟨u, 0, none⟩)] : Value)) r13 u) [] [blkE b6 55 [.int .i64 p1.ID, .int .i64 p1.Container, .int .i64 p1.Vehicle, .int .i64 p1.At, .int .i64 p1.Mass.Lo, .int .i64 p1.Mass.Hi, .bool p1.Void], blkE b5 64 [.int .i64 p0.From, .int .i64 p0.Base, .int .i64 p0.Empty, .int .i64 p0.Kilo, .int .i64 p0.Free]] (O := fun (u : Nat) => (fun (r : Int) (u : Nat) => [blkE u 3 [.int .i64 r]]) r13 u) (hsub [0, 1] (by kernel_rfl) rfl) rfl (by kernel_rfl) (op_call (by kernel_rfl)) c38 (fun c1 => m_tariff_priced_ok N w0 _ [blkE b6 55 [.int .i64 p1.ID, .int .i64 p1.Container, .int .i64 p1.Vehicle, .int .i64 p1.At, .int .i64 p1.Mass.Lo, .int .i64 p1.Mass.Hi, .bool p1.Void], blkE b5 64 [.int .i64 p0.From, .int .i64 p0.Base, .int .i64 p0.Empty, .int .i64 p0.Kilo, .int .i64 p0.Free]] (2 : Int)  c1 r13 h14) ?_
   intro u39 w40 c41
   refine ⟨(hsub [1, 2] (by kernel_rfl) rfl _ c41), ?_⟩
   refine wh_strong (Hs w0 [blkE u39 3 [.int .i64 r13], blkE b6 55 [.int .i64 p1.ID, .int .i64 p1.Container, .int .i64 p1.Vehicle, .int .i64 p1.At, .int .i64 p1.Mass.Lo, .int .i64 p1.Mass.Hi, .bool p1.Void], blkE b5 64 [.int .i64 p0.From, .int .i64 p0.Base, .int .i64 p0.Empty, .int .i64 p0.Kilo, .int .i64 p0.Free]]) (fun w2 c2 => hsub [1, 2] (by kernel_rfl) rfl w2 c2) ?_
   refine wh_ready [5] (by kernel_rfl) rfl ⟨?_, trivial⟩
   refine ws_call 29 rfl (by kernel_rfl) (op_callv rfl (by kernel_rfl)) (m_tariff_priced_1_ok N _ p1.ID (1 : Int) p0.Empty r13 u39 (c41.blk 0 rfl) r15 h16) ?_
   rintro x w43 ⟨u42, rfl, c44⟩
   replace c44 := c41.call c44
   refine ⟨_, rfl, (hsub [0, 1, 2] (by kernel_rfl) rfl _ c44), ?_⟩
   refine wh_ready [6] (by kernel_rfl) rfl ⟨?_, trivial⟩
   refine ws_sliceN 30 (el := 66) (sz := 5) (bytes := 40) (enc := encApiItem) [r15] rfl (by kernel_rfl) (by kernel_rfl) encApiItem_len rfl ⟨rfl, rfl, trivial⟩ (by kernel_rfl) (by kernel_rfl) c44 ?_
   intro A45 n46 k47 w48 c49
   refine ⟨(hsub [1, 2, 3] (by kernel_rfl) rfl _ c49), ?_⟩
   refine wh_strong (Hs w0 [ownE 66 5 encApiItem A45 n46 k47 ([r15]), blkE u39 3 [.int .i64 r13], blkE b6 55 [.int .i64 p1.ID, .int .i64 p1.Container, .int .i64 p1.Vehicle, .int .i64 p1.At, .int .i64 p1.Mass.Lo, .int .i64 p1.Mass.Hi, .bool p1.Void], blkE b5 64 [.int .i64 p0.From, .int .i64 p0.Base, .int .i64 p0.Empty, .int .i64 p0.Kilo, .int .i64 p0.Free]]) (fun w2 c2 => hsub [1, 2, 3] (by kernel_rfl) rfl w2 c2) ?_
   refine wh_take 7 8 rfl (by kernel_rfl) (by kernel_rfl) (fun w2 c2 => (oa (v := .slice _ _ _) rfl)) (hsub [0, 1, 2, 3] (by kernel_rfl) rfl _ c49) ?_
   exact wh_done (A45, n46, k47) (by kernel_rfl) (sc (by kernel_rfl) rfl (sc (by kernel_rfl) rfl (sc (by kernel_rfl) rfl (sc (by kernel_rfl) rfl sub_nil)))) (hsub [3, 2, 0] (by kernel_rfl) rfl _ c49)
  intro u35
  refine xn ?_
  refine cm_join (σ := (List ApiItem)) (ξ := (Option Addr) × Nat × Nat) (fun s106 u107 => [(8, .slice u107.1 u107.2.1 u107.2.2)]) (fun s106 u107 => [ownE 66 5 encApiItem u107.1 u107.2.1 u107.2.2 s106]) ?_ ?_
  ·skip
   refine cq ?_
   refine cr ?_
   refine lv 31 (by kernel_rfl) (fun w1 c1 => (om (v := .int .i64 _) rfl)) ?_
   refine lv 32 (by kernel_rfl) (fun w1 c1 => (op_gtr rfl rfl)) ?_
   refine ln ?_
   refine xn ?_
   refine cm_cond (by kernel_rfl) rfl (fun h108 => ?_) (fun h108 => ?_)
   ·skip
    refine cm_bind fun r109 h110 => ?_
    refine cm_bind fun r111 h112 => ?_
    refine cm_ck (fun h119 => ?_)
    refine cm_of_then ?_
    refine cm_held (ξ := (Option Addr) × Nat × Nat) (fun u142 => [(8, .slice u142.1 u142.2.1 u142.2.2)]) (fun u142 => [ownE 66 5 encApiItem u142.1 u142.2.1 u142.2.2 (([r15]) ++ ([r111]))]) [blkE b5 64 [.int .i64 p0.From, .int .i64 p0.Base, .int .i64 p0.Empty, .int .i64 p0.Kilo, .int .i64 p0.Free], blkE b6 55 [.int .i64 p1.ID, .int .i64 p1.Container, .int .i64 p1.Vehicle, .int .i64 p1.At, .int .i64 p1.Mass.Lo, .int .i64 p1.Mass.Hi, .bool p1.Void]] 11 (by kernel_rfl) (by rfl) (hsub [0, 1] (by kernel_rfl) (by rfl)) ?_ ?_
    ·intro w144 c145
     refine wh_take 0 33 rfl (by kernel_rfl) (by kernel_rfl) (fun w2 c2 => (om (v := .slice _ _ _) rfl)) (hsub [0, 1] (by kernel_rfl) rfl _ c145) ?_
     refine wh_take 2 35 rfl (by kernel_rfl) (by kernel_rfl) (fun w2 c2 => (oF (m := 0) (k := 0) rfl (by kernel_rfl) rfl)) (hsub [0, 1] (by kernel_rfl) rfl _ c145) ?_
     refine wh_take 3 36 rfl (by kernel_rfl) (by kernel_rfl) (fun w2 c2 => (ol rfl (by kernel_rfl) (c2.cell 1 (u := .int .i64 _) rfl rfl))) (hsub [0, 1] (by kernel_rfl) rfl _ c145) ?_
     refine wh_take 4 37 rfl (by kernel_rfl) (by kernel_rfl) (fun w2 c2 => (om (v := .int .i64 _) rfl)) (hsub [0, 1] (by kernel_rfl) rfl _ c145) ?_
     refine wh_take 5 38 rfl (by kernel_rfl) (by kernel_rfl) (fun w2 c2 => (oF (m := 3) (k := 3) rfl (by kernel_rfl) rfl)) (hsub [0, 1] (by kernel_rfl) rfl _ c145) ?_
     refine wh_take 6 39 rfl (by kernel_rfl) (by kernel_rfl) (fun w2 c2 => (ol rfl (by kernel_rfl) (c2.cell 0 (u := .int .i64 _) rfl rfl))) (hsub [0, 1] (by kernel_rfl) rfl _ c145) ?_
     refine wh_ready [1] (by kernel_rfl) rfl ⟨?_, trivial⟩
     refine ws_callH 34 (V := fun (u : Nat) => (fun (_r : Int) (u : Nat) => (.func (.func 124) #[] #[.pointer (some ⟨u, 0, none⟩)] : Value)) r109 u) [] [blkE b5 64 [.int .i64 p0.From, .int .i64 p0.Base, .int .i64 p0.Empty, .int .i64 p0.Kilo, .int .i64 p0.Free], blkE b6 55 [.int .i64 p1.ID, .int .i64 p1.Container, .int .i64 p1.Vehicle, .int .i64 p1.At, .int .i64 p1.Mass.Lo, .int .i64 p1.Mass.Hi, .bool p1.Void], ownE 66 5 encApiItem u35.1 u35.2.1 u35.2.2 ([r15])] (O := fun (u : Nat) => (fun (r : Int) (u : Nat) => [blkE u 3 [.int .i64 r]]) r109 u) (hsub [0, 1, 2] (by kernel_rfl) rfl) rfl (by kernel_rfl) (op_call (by kernel_rfl)) c145 (fun c1 => m_tariff_priced_ok N w0 _ [blkE b5 64 [.int .i64 p0.From, .int .i64 p0.Base, .int .i64 p0.Empty, .int .i64 p0.Kilo, .int .i64 p0.Free], blkE b6 55 [.int .i64 p1.ID, .int .i64 p1.Container, .int .i64 p1.Vehicle, .int .i64 p1.At, .int .i64 p1.Mass.Lo, .int .i64 p1.Mass.Hi, .bool p1.Void], ownE 66 5 encApiItem u35.1 u35.2.1 u35.2.2 ([r15])] (3 : Int)  c1 r109 h110) ?_
     intro u146 w147 c148
     refine ⟨(hsub [1, 2] (by kernel_rfl) rfl _ c148), ?_⟩
     refine wh_strong (Hs w0 [blkE u146 3 [.int .i64 r109], blkE b5 64 [.int .i64 p0.From, .int .i64 p0.Base, .int .i64 p0.Empty, .int .i64 p0.Kilo, .int .i64 p0.Free], blkE b6 55 [.int .i64 p1.ID, .int .i64 p1.Container, .int .i64 p1.Vehicle, .int .i64 p1.At, .int .i64 p1.Mass.Lo, .int .i64 p1.Mass.Hi, .bool p1.Void]]) (fun w2 c2 => hsub [1, 2] (by kernel_rfl) rfl w2 c2) ?_
     refine wh_ready [7] (by kernel_rfl) rfl ⟨?_, trivial⟩
     refine ws_call 40 rfl (by kernel_rfl) (op_callv rfl (by kernel_rfl)) (m_tariff_priced_1_ok N _ p1.ID r7.1 p0.Kilo r109 u146 (c148.blk 0 rfl) r111 h112) ?_
     rintro x w150 ⟨u149, rfl, c151⟩
     replace c151 := c148.call c151
     refine ⟨_, rfl, (hsub [0, 1, 2] (by kernel_rfl) rfl _ c151), ?_⟩
     refine wh_ready [8] (by kernel_rfl) rfl ⟨?_, trivial⟩
     refine ws_sliceN 41 (el := 66) (sz := 5) (bytes := 40) (enc := encApiItem) [r111] rfl (by kernel_rfl) (by kernel_rfl) encApiItem_len rfl ⟨rfl, rfl, trivial⟩ (by kernel_rfl) (by kernel_rfl) c151 ?_
     intro A152 n153 k154 w155 c156
     refine ⟨(hsub [1, 2, 3] (by kernel_rfl) rfl _ c156), ?_⟩
     refine wh_strong (Hs w0 [ownE 66 5 encApiItem A152 n153 k154 ([r111]), blkE u146 3 [.int .i64 r109], blkE b5 64 [.int .i64 p0.From, .int .i64 p0.Base, .int .i64 p0.Empty, .int .i64 p0.Kilo, .int .i64 p0.Free], blkE b6 55 [.int .i64 p1.ID, .int .i64 p1.Container, .int .i64 p1.Vehicle, .int .i64 p1.At, .int .i64 p1.Mass.Lo, .int .i64 p1.Mass.Hi, .bool p1.Void]]) (fun w2 c2 => hsub [1, 2, 3] (by kernel_rfl) rfl w2 c2) ?_
     refine wh_ready [9] (by kernel_rfl) rfl ⟨?_, trivial⟩
     refine ws_append 42 4 (el := 66) (sz := 5) (bytes := 40) (enc := encApiItem) (l2 := ([r111])) rfl (by kernel_rfl) (by kernel_rfl) encApiItem_len encApiItem_one rfl rfl rfl (c156.ownZ 0 rfl) (c156.own 0 rfl encApiItem_len) h119 (by kernel_rfl) c156 ?_
     intro A158 n159 k160 w161 c162
     refine ⟨(hsub [0, 1, 2, 3] (by kernel_rfl) rfl _ c162), ?_⟩
     refine wh_take 10 8 rfl (by kernel_rfl) (by kernel_rfl) (fun w2 c2 => (oa (v := .slice _ _ _) rfl)) (hsub [0, 1, 2, 3] (by kernel_rfl) rfl _ c162) ?_
     exact wh_done (A158, n159, k160) (by kernel_rfl) (sc (by kernel_rfl) rfl sub_nil) (hsub [4] (by kernel_rfl) rfl _ c162)
    intro u142
    refine xm_of_then ?_
    exact xm_lnext (u142.1, u142.2.1, u142.2.2) (sc (by kernel_rfl) rfl sub_nil) (hsub [0] (by kernel_rfl) rfl)
   ·skip
    refine cm_skip ?_
    exact xm_lnext (u35.1, u35.2.1, u35.2.2) (sc (by kernel_rfl) rfl sub_nil) (hsub [2] (by kernel_rfl) rfl)
  intro s106 u107
  refine cq ?_
  refine cr ?_
  refine lv 43 (by kernel_rfl) (fun w1 c1 => (om (v := .slice _ _ _) rfl)) ?_
  refine lv 4 (by kernel_rfl) (fun w1 c1 => (oa (v := .slice _ _ _) rfl)) ?_
  refine lv 5 (by kernel_rfl) (fun w1 c1 => (oa (v := .int .i64 _) rfl)) ?_
  refine ln ?_
  refine xn ?_
  refine cm_ret ?_
  exact xm_retTT rfl (by kernel_rfl) (show _ = Value.slice _ _ _ from rfl) (by kernel_rfl) (show _ = Value.int .i64 _ from rfl) fun w1 c1 => ⟨(u107.1, u107.2.1, u107.2.2), rfl, hsub [0] (by kernel_rfl) rfl w1 c1⟩
/-- recyclingref53.Mass -/
def m_recyclingref53_Mass (_N : Nat) (p0 : ApiSpan) : Option (Bool) :=
 some ((((decide (0 ≤ p0.Lo)) && (decide (p0.Lo ≤ p0.Hi))) && (decide (p0.Hi ≤ 1073741824))))
set_option maxRecDepth 20000 in
theorem m_recyclingref53_Mass_ok (N : Nat) (w0 : World) (p0 : ApiSpan)   (r : Bool) (hr : m_recyclingref53_Mass N p0 = some r) :
  Calls Tryz.prog 74 [.agg #[.int .i64 p0.Lo, .int .i64 p0.Hi]].toArray w0 fun x w1 => ∃ u, x = .returned ((fun (r : Bool) (_u : Unit) => .bool r) r u) ∧ Hs w0 ((fun (_r : Bool) (_u : Unit) => []) r u) w1 := by
 refine calls_cm (n := 18) (R := fun r x w1 => ∃ u, x = .returned ((fun (r : Bool) (_u : Unit) => .bool r) r u) ∧ Hs w0 ((fun (_r : Bool) (_u : Unit) => []) r u) w1) Tryz.func74 rfl rfl (Nat.le_of_ble_eq_true rfl) ?_ r hr
 unfold m_recyclingref53_Mass
 refine cq ?_
 refine cr ?_
 refine lm_box 1 [.int .i64 _, .int .i64 _] (by kernel_rfl) rfl ?_
 intro b5
 refine lv 2 (by kernel_rfl) (fun w1 c1 => (oa (v := .bool false) rfl)) ?_
 refine ln ?_
 refine xn ?_
 refine cq ?_
 refine cm_cutE [(2, .bool (((decide (0 ≤ p0.Lo)) && (decide (p0.Lo ≤ p0.Hi))) && (decide (p0.Hi ≤ 1073741824))))] ?_ ?_
 ·skip
  refine wv 3 (by kernel_rfl) (fun w1 c1 => (oF (m := 0) (k := 0) rfl (by kernel_rfl) rfl)) ?_
  refine wv 4 (by kernel_rfl) (fun w1 c1 => (ol rfl (by kernel_rfl) (c1.cell 0 (u := .int .i64 _) rfl rfl))) ?_
  refine wq_dec 5 (by kernel_rfl) (fun w1 c1 => (op_geq rfl rfl)) (fun h6 => ?_) (fun h6 => ?_)
  ·skip
   refine wv 6 (by kernel_rfl) (fun w1 c1 => (om (v := .bool true) rfl)) ?_
   refine wv 7 (by kernel_rfl) (fun w1 c1 => (oF (m := 0) (k := 0) rfl (by kernel_rfl) rfl)) ?_
   refine wv 8 (by kernel_rfl) (fun w1 c1 => (ol rfl (by kernel_rfl) (c1.cell 0 (u := .int .i64 _) rfl rfl))) ?_
   refine wv 9 (by kernel_rfl) (fun w1 c1 => (oF (m := 1) (k := 1) rfl (by kernel_rfl) rfl)) ?_
   refine wv 10 (by kernel_rfl) (fun w1 c1 => (ol rfl (by kernel_rfl) (c1.cell 0 (u := .int .i64 _) rfl rfl))) ?_
   refine wq_dec 11 (by kernel_rfl) (fun w1 c1 => (op_leq rfl rfl)) (fun h7 => ?_) (fun h7 => ?_)
   ·skip
    refine wv 12 (by kernel_rfl) (fun w1 c1 => (opt (v := .bool true) rfl rfl)) ?_
    refine wv 13 (by kernel_rfl) (fun w1 c1 => (om (v := .bool true) rfl)) ?_
    refine wv 14 (by kernel_rfl) (fun w1 c1 => (oF (m := 1) (k := 1) rfl (by kernel_rfl) rfl)) ?_
    refine wv 15 (by kernel_rfl) (fun w1 c1 => (ol rfl (by kernel_rfl) (c1.cell 0 (u := .int .i64 _) rfl rfl))) ?_
    refine wv 16 (by kernel_rfl) (fun w1 c1 => (op_leq rfl rfl)) ?_
    refine wv 17 (by kernel_rfl) (fun w1 c1 => (opt (v := .bool _) rfl rfl)) ?_
    refine wv 2 (by kernel_rfl) (fun w1 c1 => (oa (v := .bool _) rfl)) ?_
    exact leaf_q (sub_out 16 _ rfl (by kernel_rfl) ⟨(congrArg Value.bool (by rw [decide_eq_true h6, decide_eq_true h7] <;> rfl)), trivial⟩)
   ·skip
    refine wv 12 (by kernel_rfl) (fun w1 c1 => (opt (v := .bool false) rfl rfl)) ?_
    refine wv 13 (by kernel_rfl) (fun w1 c1 => (om (v := .bool false) rfl)) ?_
    refine wk 14 (by kernel_rfl) ?_
    refine wk 15 (by kernel_rfl) ?_
    refine wk 16 (by kernel_rfl) ?_
    refine wv 17 (by kernel_rfl) (fun w1 c1 => (opf (v := .bool false) rfl rfl)) ?_
    refine wv 2 (by kernel_rfl) (fun w1 c1 => (oa (v := .bool false) rfl)) ?_
    exact leaf_q (sub_out 16 _ rfl (by kernel_rfl) ⟨(congrArg Value.bool (by rw [decide_eq_true h6, decide_eq_false h7] <;> rfl)), trivial⟩)
  ·skip
   refine wv 6 (by kernel_rfl) (fun w1 c1 => (om (v := .bool false) rfl)) ?_
   refine wk 7 (by kernel_rfl) ?_
   refine wk 8 (by kernel_rfl) ?_
   refine wk 9 (by kernel_rfl) ?_
   refine wk 10 (by kernel_rfl) ?_
   refine wk 11 (by kernel_rfl) ?_
   refine wv 12 (by kernel_rfl) (fun w1 c1 => (opf (v := .bool false) rfl rfl)) ?_
   refine wv 13 (by kernel_rfl) (fun w1 c1 => (om (v := .bool false) rfl)) ?_
   refine wk 14 (by kernel_rfl) ?_
   refine wk 15 (by kernel_rfl) ?_
   refine wk 16 (by kernel_rfl) ?_
   refine wv 17 (by kernel_rfl) (fun w1 c1 => (opf (v := .bool false) rfl rfl)) ?_
   refine wv 2 (by kernel_rfl) (fun w1 c1 => (oa (v := .bool false) rfl)) ?_
   exact leaf_q (sub_out 16 _ rfl (by kernel_rfl) ⟨(congrArg Value.bool (by rw [decide_eq_false h6] <;> rfl)), trivial⟩)
 refine xn ?_
 refine cm_ret ?_
 exact xm_retT rfl (by kernel_rfl) (show _ = Value.bool _ from rfl) fun w1 c1 => ⟨(), rfl, hsub [] (by kernel_rfl) rfl w1 c1⟩
/-- recyclingref53.Weight -/
def m_recyclingref53_Weight (N : Nat) (p0 : ApiTariff) (p1 : ApiSpan) : Option (Int × Int) :=
 Option.bind (m_recyclingref53_Usable N p0) fun r7 => callIf ((!(!r7)) = true) (m_recyclingref53_Mass N p1) fun r9 => (if ((!r7) || (!r9)) = true then
  some (((0 : Int), (1 : Int)))
 else
  ck (I64 p1.Lo) (
   ck (I64 ((Int.tdiv p1.Lo 1000) - p0.Free)) (
    (andThen
     (if ((Int.tdiv p1.Lo 1000) - p0.Free) < 0 then
      some (.next (0 : Int))
     else
      some (.next ((Int.tdiv p1.Lo 1000) - p0.Free)))
    fun (s16 : Int) =>
     some ((s16, (0 : Int)))))))
set_option maxRecDepth 20000 in
theorem m_recyclingref53_Weight_ok (N : Nat) (w0 : World) (p0 : ApiTariff) (p1 : ApiSpan)   (r : Int × Int) (hr : m_recyclingref53_Weight N p0 p1 = some r) :
  Calls Tryz.prog 70 [.agg #[.int .i64 p0.From, .int .i64 p0.Base, .int .i64 p0.Empty, .int .i64 p0.Kilo, .int .i64 p0.Free], .agg #[.int .i64 p1.Lo, .int .i64 p1.Hi]].toArray w0 fun x w1 => ∃ u, x = .returned ((fun (r : Int × Int) (_u : Unit) => .tuple #[.int .i64 r.1, .int .i64 r.2]) r u) ∧ Hs w0 ((fun (_r : Int × Int) (_u : Unit) => []) r u) w1 := by
 refine calls_cm (n := 24) (R := fun r x w1 => ∃ u, x = .returned ((fun (r : Int × Int) (_u : Unit) => .tuple #[.int .i64 r.1, .int .i64 r.2]) r u) ∧ Hs w0 ((fun (_r : Int × Int) (_u : Unit) => []) r u) w1) Tryz.func70 rfl rfl (Nat.le_of_ble_eq_true rfl) ?_ r hr
 unfold m_recyclingref53_Weight
 refine cq ?_
 refine cr ?_
 refine lm_box 2 [.int .i64 _, .int .i64 _, .int .i64 _, .int .i64 _, .int .i64 _] (by kernel_rfl) rfl ?_
 intro b5
 refine lm_box 3 [.int .i64 _, .int .i64 _] (by kernel_rfl) rfl ?_
 intro b6
 refine lv 4 (by kernel_rfl) (fun w1 c1 => (oa (v := .int .i64 _) rfl)) ?_
 refine lv 5 (by kernel_rfl) (fun w1 c1 => (oa (v := .int .i64 _) rfl)) ?_
 refine ln ?_
 refine xn ?_
 refine cq ?_
 refine cq ?_
 refine cm_bind fun r7 h8 => ?_
 refine cm_callIf fun r9 h10 => ?_
 refine cm_cutE [(14, .bool ((!r7) || (!r9)))] ?_ ?_
 ·skip
  refine wv 7 (by kernel_rfl) (fun w1 c1 => (op_loadR [.int .i64 _, .int .i64 _, .int .i64 _, .int .i64 _, .int .i64 _] rfl (by kernel_rfl) (c1.cells 1 rfl rfl))) ?_
  refine wq_callb 8 (by kernel_rfl) (fun w1 c1 => op_call (by kernel_rfl)) (fun w1 c1 => (m_recyclingref53_Usable_ok N w1 p0  r7 h8).mono (fun _ _ ⟨_, hx, hu⟩ => ⟨hx, c1.call hu⟩)) (fun h11 => ?_) (fun h11 => ?_)
  ·skip
   refine wv 9 (by kernel_rfl) (fun w1 c1 => (op_nott rfl)) ?_
   refine wv 10 (by kernel_rfl) (fun w1 c1 => (om (v := .bool false) rfl)) ?_
   refine wv 11 (by kernel_rfl) (fun w1 c1 => (op_loadR [.int .i64 _, .int .i64 _] rfl (by kernel_rfl) (c1.cells 0 rfl rfl))) ?_
   refine wq_call 12 (by kernel_rfl) (fun w1 c1 => op_call (by kernel_rfl)) (fun w1 c1 => (m_recyclingref53_Mass_ok N w1 p1  r9 (h10 (by rw [h11] <;> rfl))).mono (fun _ _ ⟨_, hx, hu⟩ => ⟨hx, c1.call hu⟩)) ?_
   refine wv 13 (by kernel_rfl) (fun w1 c1 => (op_not rfl)) ?_
   refine wv 14 (by kernel_rfl) (fun w1 c1 => (opf (v := .bool _) rfl rfl)) ?_
   exact leaf_q (sub_out 8 _ rfl (by kernel_rfl) ⟨(congrArg Value.bool (by rw [h11] <;> rfl)), trivial⟩)
  ·skip
   refine wv 9 (by kernel_rfl) (fun w1 c1 => (op_notf rfl)) ?_
   refine wv 10 (by kernel_rfl) (fun w1 c1 => (om (v := .bool true) rfl)) ?_
   refine wk 11 (by kernel_rfl) ?_
   refine wk 12 (by kernel_rfl) ?_
   refine wk 13 (by kernel_rfl) ?_
   refine wv 14 (by kernel_rfl) (fun w1 c1 => (opt (v := .bool true) rfl rfl)) ?_
   exact leaf_q (sub_out 8 _ rfl (by kernel_rfl) ⟨(congrArg Value.bool (by rw [h11] <;> rfl)), trivial⟩)
 refine xn ?_
 refine cm_condB (by kernel_rfl) rfl (fun h12 => ?_) (fun h12 => ?_)
 ·skip
  refine cq ?_
  refine cr ?_
  refine lv 4 (by kernel_rfl) (fun w1 c1 => (oa (v := .int .i64 _) rfl)) ?_
  refine lv 5 (by kernel_rfl) (fun w1 c1 => (oa (v := .int .i64 _) rfl)) ?_
  refine ln ?_
  refine xn ?_
  refine cm_ret ?_
  refine xm_thenR ?_
  exact xm_retTT rfl (by kernel_rfl) (show _ = Value.int .i64 _ from rfl) (by kernel_rfl) (show _ = Value.int .i64 _ from rfl) fun w1 c1 => ⟨(), rfl, hsub [] (by kernel_rfl) rfl w1 c1⟩
 ·skip
  refine cm_skip ?_
  refine xn ?_
  refine cq ?_
  refine cr ?_
  refine lv 15 (by kernel_rfl) (fun w1 c1 => (oF (m := 0) (k := 0) rfl (by kernel_rfl) rfl)) ?_
  refine lv 16 (by kernel_rfl) (fun w1 c1 => (ol rfl (by kernel_rfl) (c1.cell 0 (u := .int .i64 _) rfl rfl))) ?_
  refine lm_ck (fun h13 => ?_)
  refine lv 17 (by kernel_rfl) (fun w1 c1 => (op_quoK rfl rfl (by kernel_rfl) h13)) ?_
  refine lv 18 (by kernel_rfl) (fun w1 c1 => (oF (m := 4) (k := 4) rfl (by kernel_rfl) rfl)) ?_
  refine lv 19 (by kernel_rfl) (fun w1 c1 => (ol rfl (by kernel_rfl) (c1.cell 1 (u := .int .i64 _) rfl rfl))) ?_
  refine lm_ck (fun h14 => ?_)
  refine lv 20 (by kernel_rfl) (fun w1 c1 => (op_sub rfl rfl h14)) ?_
  refine lv 6 (by kernel_rfl) (fun w1 c1 => (oa (v := .int .i64 _) rfl)) ?_
  refine ln ?_
  refine xn ?_
  refine cm_join (σ := Int) (ξ := Unit) (fun s16 u17 => [(6, .int .i64 s16)]) (fun s16 u17 => []) ?_ ?_
  ·skip
   refine cq ?_
   refine cr ?_
   refine lv 21 (by kernel_rfl) (fun w1 c1 => (om (v := .int .i64 _) rfl)) ?_
   refine lv 22 (by kernel_rfl) (fun w1 c1 => (op_lss rfl rfl)) ?_
   refine ln ?_
   refine xn ?_
   refine cm_cond (by kernel_rfl) rfl (fun h18 => ?_) (fun h18 => ?_)
   ·skip
    refine cr ?_
    refine lv 6 (by kernel_rfl) (fun w1 c1 => (oa (v := .int .i64 _) rfl)) ?_
    refine ln ?_
    exact xm_lnext () (sc (by kernel_rfl) rfl sub_nil) (hsub [] (by kernel_rfl) rfl)
   ·skip
    refine cm_skip ?_
    exact xm_lnext () (sc (by kernel_rfl) rfl sub_nil) (hsub [] (by kernel_rfl) rfl)
  intro s16 u17
  refine cq ?_
  refine cr ?_
  refine lv 23 (by kernel_rfl) (fun w1 c1 => (om (v := .int .i64 _) rfl)) ?_
  refine lv 4 (by kernel_rfl) (fun w1 c1 => (oa (v := .int .i64 _) rfl)) ?_
  refine lv 5 (by kernel_rfl) (fun w1 c1 => (oa (v := .int .i64 _) rfl)) ?_
  refine ln ?_
  refine xn ?_
  refine cm_ret ?_
  exact xm_retTT rfl (by kernel_rfl) (show _ = Value.int .i64 _ from rfl) (by kernel_rfl) (show _ = Value.int .i64 _ from rfl) fun w1 c1 => ⟨(), rfl, hsub [] (by kernel_rfl) rfl w1 c1⟩
/-- recyclingref53.Items -/
def m_recyclingref53_Items (N : Nat) (p0 : ApiTariff) (p1 : ApiEmptying) : Option ((List ApiItem) × Int) :=
 Option.bind (m_recyclingref53_Weight N p0 p1.Mass) fun r7 => (if (((decide (r7.2 ≠ 0)) || (decide (p1.ID < 1))) || (decide (1000000 < p1.ID))) = true then
  some ((([] : List ApiItem), (1 : Int)))
 else
  (andThen
   (if 0 < r7.1 then
    ck (I64 (r7.1 * p0.Kilo)) (
     ck ((List.length ([(ApiItem.mk 2 p1.ID 1 p0.Empty p0.Empty)]) + List.length ([(ApiItem.mk 3 p1.ID r7.1 p0.Kilo (r7.1 * p0.Kilo))])) * 40 ≤ 140737488355328) (
      some (.next (([(ApiItem.mk 2 p1.ID 1 p0.Empty p0.Empty)]) ++ ([(ApiItem.mk 3 p1.ID r7.1 p0.Kilo (r7.1 * p0.Kilo))])))))
   else
    some (.next ([(ApiItem.mk 2 p1.ID 1 p0.Empty p0.Empty)])))
  fun (s26 : (List ApiItem)) =>
   some ((s26, (0 : Int)))))
set_option maxHeartbeats 2000000 in
set_option maxRecDepth 20000 in
theorem m_recyclingref53_Items_ok (N : Nat) (w0 : World) (p0 : ApiTariff) (p1 : ApiEmptying)   (r : (List ApiItem) × Int) (hr : m_recyclingref53_Items N p0 p1 = some r) :
  Calls Tryz.prog 61 [.agg #[.int .i64 p0.From, .int .i64 p0.Base, .int .i64 p0.Empty, .int .i64 p0.Kilo, .int .i64 p0.Free], .agg #[.int .i64 p1.ID, .int .i64 p1.Container, .int .i64 p1.Vehicle, .int .i64 p1.At, .int .i64 p1.Mass.Lo, .int .i64 p1.Mass.Hi, .bool p1.Void]].toArray w0 fun x w1 => ∃ u, x = .returned ((fun (r : (List ApiItem) × Int) (u : (Option Addr) × Nat × Nat) => .tuple #[.slice u.1 u.2.1 u.2.2, .int .i64 r.2]) r u) ∧ Hs w0 ((fun (r : (List ApiItem) × Int) (u : (Option Addr) × Nat × Nat) => [ownE 66 5 encApiItem u.1 u.2.1 u.2.2 r.1]) r u) w1 := by
 refine calls_cm (n := 52) (R := fun r x w1 => ∃ u, x = .returned ((fun (r : (List ApiItem) × Int) (u : (Option Addr) × Nat × Nat) => .tuple #[.slice u.1 u.2.1 u.2.2, .int .i64 r.2]) r u) ∧ Hs w0 ((fun (r : (List ApiItem) × Int) (u : (Option Addr) × Nat × Nat) => [ownE 66 5 encApiItem u.1 u.2.1 u.2.2 r.1]) r u) w1) Tryz.func61 rfl rfl (Nat.le_of_ble_eq_true rfl) ?_ r hr
 unfold m_recyclingref53_Items
 refine cq ?_
 refine cr ?_
 refine lm_box 2 [.int .i64 _, .int .i64 _, .int .i64 _, .int .i64 _, .int .i64 _] (by kernel_rfl) rfl ?_
 intro b5
 refine lm_box 3 [.int .i64 _, .int .i64 _, .int .i64 _, .int .i64 _, .int .i64 _, .int .i64 _, .bool _] (by kernel_rfl) rfl ?_
 intro b6
 refine lv 4 (by kernel_rfl) (fun w1 c1 => (oa (v := .slice _ _ _) rfl)) ?_
 refine lv 5 (by kernel_rfl) (fun w1 c1 => (oa (v := .int .i64 _) rfl)) ?_
 refine ln ?_
 refine xn ?_
 refine cq ?_
 refine cr ?_
 refine lv 10 (by kernel_rfl) (fun w1 c1 => (op_loadR [.int .i64 _, .int .i64 _, .int .i64 _, .int .i64 _, .int .i64 _] rfl (by kernel_rfl) (c1.cells 1 rfl rfl))) ?_
 refine lv 11 (by kernel_rfl) (fun w1 c1 => (oF (m := 4) (k := 4) rfl (by kernel_rfl) rfl)) ?_
 refine lv 12 (by kernel_rfl) (fun w1 c1 => (op_loadR [.int .i64 _, .int .i64 _] rfl (by kernel_rfl) (c1.cells 0 rfl rfl))) ?_
 refine lm_call 13 (V := (fun (r : Int × Int) (_u : Unit) => .tuple #[.int .i64 r.1, .int .i64 r.2])) (HR := (fun (_r : Int × Int) (_u : Unit) => [])) (by kernel_rfl) (fun w1 => op_call (by kernel_rfl)) (fun r1 hr1 w1 c1 => m_recyclingref53_Weight_ok N w1 p0 p1.Mass  r1 hr1) ?_
 intro r7 u8
 refine lv 9 (by kernel_rfl) (fun w1 c1 => (om (v := .tuple _) rfl)) ?_
 refine lv 14 (by kernel_rfl) (fun w1 c1 => (op_extract (v := .int .i64 _) rfl rfl)) ?_
 refine lv 15 (by kernel_rfl) (fun w1 c1 => (op_extract (v := .int .i64 _) rfl rfl)) ?_
 refine lv 6 (by kernel_rfl) (fun w1 c1 => (oa (v := .int .i64 _) rfl)) ?_
 refine lv 7 (by kernel_rfl) (fun w1 c1 => (oa (v := .int .i64 _) rfl)) ?_
 refine ln ?_
 refine xn ?_
 refine cq ?_
 refine cq ?_
 refine cm_cutE [(27, .bool (((decide (r7.2 ≠ 0)) || (decide (p1.ID < 1))) || (decide (1000000 < p1.ID))))] ?_ ?_
 ·skip
  refine wv 16 (by kernel_rfl) (fun w1 c1 => (om (v := .int .i64 _) rfl)) ?_
  refine wq_dec 17 (by kernel_rfl) (fun w1 c1 => (op_neq rfl rfl)) (fun h9 => ?_) (fun h9 => ?_)
  ·skip
   refine wv 18 (by kernel_rfl) (fun w1 c1 => (om (v := .bool true) rfl)) ?_
   refine wk 19 (by kernel_rfl) ?_
   refine wk 20 (by kernel_rfl) ?_
   refine wk 21 (by kernel_rfl) ?_
   refine wv 22 (by kernel_rfl) (fun w1 c1 => (opt (v := .bool true) rfl rfl)) ?_
   refine wv 23 (by kernel_rfl) (fun w1 c1 => (om (v := .bool true) rfl)) ?_
   refine wk 24 (by kernel_rfl) ?_
   refine wk 25 (by kernel_rfl) ?_
   refine wk 26 (by kernel_rfl) ?_
   refine wv 27 (by kernel_rfl) (fun w1 c1 => (opt (v := .bool true) rfl rfl)) ?_
   exact leaf_q (sub_out 12 _ rfl (by kernel_rfl) ⟨(congrArg Value.bool (by rw [decide_eq_true h9] <;> rfl)), trivial⟩)
  ·skip
   refine wv 18 (by kernel_rfl) (fun w1 c1 => (om (v := .bool false) rfl)) ?_
   refine wv 19 (by kernel_rfl) (fun w1 c1 => (oF (m := 0) (k := 0) rfl (by kernel_rfl) rfl)) ?_
   refine wv 20 (by kernel_rfl) (fun w1 c1 => (ol rfl (by kernel_rfl) (c1.cell 0 (u := .int .i64 _) rfl rfl))) ?_
   refine wq_dec 21 (by kernel_rfl) (fun w1 c1 => (op_lss rfl rfl)) (fun h10 => ?_) (fun h10 => ?_)
   ·skip
    refine wv 22 (by kernel_rfl) (fun w1 c1 => (opf (v := .bool true) rfl rfl)) ?_
    refine wv 23 (by kernel_rfl) (fun w1 c1 => (om (v := .bool true) rfl)) ?_
    refine wk 24 (by kernel_rfl) ?_
    refine wk 25 (by kernel_rfl) ?_
    refine wk 26 (by kernel_rfl) ?_
    refine wv 27 (by kernel_rfl) (fun w1 c1 => (opt (v := .bool true) rfl rfl)) ?_
    exact leaf_q (sub_out 12 _ rfl (by kernel_rfl) ⟨(congrArg Value.bool (by rw [decide_eq_false h9, decide_eq_true h10] <;> rfl)), trivial⟩)
   ·skip
    refine wv 22 (by kernel_rfl) (fun w1 c1 => (opf (v := .bool false) rfl rfl)) ?_
    refine wv 23 (by kernel_rfl) (fun w1 c1 => (om (v := .bool false) rfl)) ?_
    refine wv 24 (by kernel_rfl) (fun w1 c1 => (oF (m := 0) (k := 0) rfl (by kernel_rfl) rfl)) ?_
    refine wv 25 (by kernel_rfl) (fun w1 c1 => (ol rfl (by kernel_rfl) (c1.cell 0 (u := .int .i64 _) rfl rfl))) ?_
    refine wv 26 (by kernel_rfl) (fun w1 c1 => (op_gtr rfl rfl)) ?_
    refine wv 27 (by kernel_rfl) (fun w1 c1 => (opf (v := .bool _) rfl rfl)) ?_
    exact leaf_q (sub_out 12 _ rfl (by kernel_rfl) ⟨(congrArg Value.bool (by rw [decide_eq_false h9, decide_eq_false h10] <;> rfl)), trivial⟩)
 refine xn ?_
 refine cm_condB (by kernel_rfl) rfl (fun h11 => ?_) (fun h11 => ?_)
 ·skip
  refine cq ?_
  refine cr ?_
  refine lv 4 (by kernel_rfl) (fun w1 c1 => (oa (v := .slice _ _ _) rfl)) ?_
  refine lv 5 (by kernel_rfl) (fun w1 c1 => (oa (v := .int .i64 _) rfl)) ?_
  refine ln ?_
  refine xn ?_
  refine cm_ret ?_
  refine xm_thenR ?_
  refine xm_nilrow 66 5 encApiItem ?_
  exact xm_retTT rfl (by kernel_rfl) (show _ = Value.slice _ _ _ from rfl) (by kernel_rfl) (show _ = Value.int .i64 _ from rfl) fun w1 c1 => ⟨(none, 0, 0), rfl, hsub [0] (by kernel_rfl) rfl w1 c1⟩
 ·skip
  refine cm_skip ?_
  refine xn ?_
  refine cq ?_
  refine cr ?_
  refine lv 28 (by kernel_rfl) (fun w1 c1 => (oF (m := 0) (k := 0) rfl (by kernel_rfl) rfl)) ?_
  refine lv 29 (by kernel_rfl) (fun w1 c1 => (ol rfl (by kernel_rfl) (c1.cell 0 (u := .int .i64 _) rfl rfl))) ?_
  refine lv 30 (by kernel_rfl) (fun w1 c1 => (oF (m := 2) (k := 2) rfl (by kernel_rfl) rfl)) ?_
  refine lv 31 (by kernel_rfl) (fun w1 c1 => (ol rfl (by kernel_rfl) (c1.cell 1 (u := .int .i64 _) rfl rfl))) ?_
  refine lv 32 (by kernel_rfl) (fun w1 c1 => (oF (m := 2) (k := 2) rfl (by kernel_rfl) rfl)) ?_
  refine lv 33 (by kernel_rfl) (fun w1 c1 => (ol rfl (by kernel_rfl) (c1.cell 1 (u := .int .i64 _) rfl rfl))) ?_
  refine lv 34 (by kernel_rfl) (fun w1 c1 => (op_build (z := [.int .i64 0, .int .i64 0, .int .i64 0, .int .i64 0, .int .i64 0]) (tab := [(0, 1), (1, 1), (2, 1), (3, 1), (4, 1)]) (cs := [.int .i64 _, .int .i64 _, .int .i64 _, .int .i64 _, .int .i64 _]) [(0, [.int .i64 _]), (1, [.int .i64 _]), (2, [.int .i64 _]), (3, [.int .i64 _]), (4, [.int .i64 _])] (by kernel_rfl) (by kernel_rfl) (fillOk_cons rfl rfl rfl (fillOk_cons rfl rfl rfl (fillOk_cons rfl rfl rfl (fillOk_cons rfl rfl rfl (fillOk_cons rfl rfl rfl fillOk_nil))))) rfl)) ?_
  refine lm_slice1 35 (el := 66) (sz := 5) (bytes := 40) (enc := encApiItem) (ApiItem.mk 2 p1.ID 1 p0.Empty p0.Empty) (by kernel_rfl) (by kernel_rfl) encApiItem_len rfl (by kernel_rfl) ?_
  intro A12 n13 k14 h15
  refine lv 8 (by kernel_rfl) (fun w1 c1 => (oa (v := .slice _ _ _) rfl)) ?_
  refine ln ?_
  refine xn ?_
  refine cm_join (σ := (List ApiItem)) (ξ := (Option Addr) × Nat × Nat) (fun s26 u27 => [(8, .slice u27.1 u27.2.1 u27.2.2)]) (fun s26 u27 => [ownE 66 5 encApiItem u27.1 u27.2.1 u27.2.2 s26]) ?_ ?_
  ·skip
   refine cq ?_
   refine cr ?_
   refine lv 36 (by kernel_rfl) (fun w1 c1 => (om (v := .int .i64 _) rfl)) ?_
   refine lv 37 (by kernel_rfl) (fun w1 c1 => (op_gtr rfl rfl)) ?_
   refine ln ?_
   refine xn ?_
   refine cm_cond (by kernel_rfl) rfl (fun h28 => ?_) (fun h28 => ?_)
   ·skip
    refine cr ?_
    refine lv 38 (by kernel_rfl) (fun w1 c1 => (om (v := .slice _ _ _) rfl)) ?_
    refine lv 39 (by kernel_rfl) (fun w1 c1 => (oF (m := 0) (k := 0) rfl (by kernel_rfl) rfl)) ?_
    refine lv 40 (by kernel_rfl) (fun w1 c1 => (ol rfl (by kernel_rfl) (c1.cell 1 (u := .int .i64 _) rfl rfl))) ?_
    refine lv 41 (by kernel_rfl) (fun w1 c1 => (om (v := .int .i64 _) rfl)) ?_
    refine lv 42 (by kernel_rfl) (fun w1 c1 => (oF (m := 3) (k := 3) rfl (by kernel_rfl) rfl)) ?_
    refine lv 43 (by kernel_rfl) (fun w1 c1 => (ol rfl (by kernel_rfl) (c1.cell 2 (u := .int .i64 _) rfl rfl))) ?_
    refine lv 44 (by kernel_rfl) (fun w1 c1 => (om (v := .int .i64 _) rfl)) ?_
    refine lv 45 (by kernel_rfl) (fun w1 c1 => (oF (m := 3) (k := 3) rfl (by kernel_rfl) rfl)) ?_
    refine lv 46 (by kernel_rfl) (fun w1 c1 => (ol rfl (by kernel_rfl) (c1.cell 2 (u := .int .i64 _) rfl rfl))) ?_
    refine lm_ck (fun h29 => ?_)
    refine lv 47 (by kernel_rfl) (fun w1 c1 => (op_mul rfl rfl h29)) ?_
    refine lv 48 (by kernel_rfl) (fun w1 c1 => (op_build (z := [.int .i64 0, .int .i64 0, .int .i64 0, .int .i64 0, .int .i64 0]) (tab := [(0, 1), (1, 1), (2, 1), (3, 1), (4, 1)]) (cs := [.int .i64 _, .int .i64 _, .int .i64 _, .int .i64 _, .int .i64 _]) [(0, [.int .i64 _]), (1, [.int .i64 _]), (2, [.int .i64 _]), (3, [.int .i64 _]), (4, [.int .i64 _])] (by kernel_rfl) (by kernel_rfl) (fillOk_cons rfl rfl rfl (fillOk_cons rfl rfl rfl (fillOk_cons rfl rfl rfl (fillOk_cons rfl rfl rfl (fillOk_cons rfl rfl rfl fillOk_nil))))) rfl)) ?_
    refine lm_slice1 49 (el := 66) (sz := 5) (bytes := 40) (enc := encApiItem) (ApiItem.mk 3 p1.ID r7.1 p0.Kilo (r7.1 * p0.Kilo)) (by kernel_rfl) (by kernel_rfl) encApiItem_len rfl (by kernel_rfl) ?_
    intro A30 n31 k32 h33
    refine lm_ck (fun h34 => ?_)
    refine lm_append 50 1 (el := 66) (sz := 5) (bytes := 40) (enc := encApiItem) (l2 := ([(ApiItem.mk 3 p1.ID r7.1 p0.Kilo (r7.1 * p0.Kilo))])) (by kernel_rfl) (by kernel_rfl) encApiItem_len encApiItem_one rfl rfl rfl (fun w1 c1 => (c1.ownZ 0 rfl)) (fun w1 c1 => (c1.own 0 rfl encApiItem_len)) h34 ?_ (by kernel_rfl)
    intro A35 n36 k37
    refine lv 8 (by kernel_rfl) (fun w1 c1 => (oa (v := .slice _ _ _) rfl)) ?_
    refine ln ?_
    exact xm_lnext (A35, n36, k37) (sc (by kernel_rfl) rfl sub_nil) (hsub [1] (by kernel_rfl) rfl)
   ·skip
    refine cm_skip ?_
    exact xm_lnext (A12, n13, k14) (sc (by kernel_rfl) rfl sub_nil) (hsub [0] (by kernel_rfl) rfl)
  intro s26 u27
  refine cq ?_
  refine cr ?_
  refine lv 51 (by kernel_rfl) (fun w1 c1 => (om (v := .slice _ _ _) rfl)) ?_
  refine lv 4 (by kernel_rfl) (fun w1 c1 => (oa (v := .slice _ _ _) rfl)) ?_
  refine lv 5 (by kernel_rfl) (fun w1 c1 => (oa (v := .int .i64 _) rfl)) ?_
  refine ln ?_
  refine xn ?_
  refine cm_ret ?_
  exact xm_retTT rfl (by kernel_rfl) (show _ = Value.slice _ _ _ from rfl) (by kernel_rfl) (show _ = Value.int .i64 _ from rfl) fun w1 c1 => ⟨(u27.1, u27.2.1, u27.2.2), rfl, hsub [0] (by kernel_rfl) rfl w1 c1⟩
/-- bill.Check -/
def m_bill_Check (N : Nat) (p0 : ApiAccount) : Option (Int) :=
 Option.bind (m_container_Check N p0.Containers (16 : Int) (64 : Int)) fun r6 => (if r6 ≠ 0 then
  some (r6)
 else
  Option.bind (m_household_Check N p0.Households (List.length p0.Containers : Int) p0.Assigns) fun r9 => (if r9 ≠ 0 then
   some (r9)
  else
   Option.bind (m_emptying_Check N p0.Emptyings (List.length p0.Containers : Int) (16 : Int)) fun r12 => (if r12 ≠ 0 then
    some (r12)
   else
    Option.bind (m_tariff_Check N p0.Tariffs) fun r15 => (if r15 ≠ 0 then
     some (r15)
    else
     (if ((decide (p0.Gap < 0)) || (decide (86400 < p0.Gap))) = true then
      some ((1 : Int))
     else
      some ((0 : Int)))))))
set_option maxHeartbeats 2000000 in
set_option maxRecDepth 20000 in
theorem m_bill_Check_ok (N : Nat) (w0 : World) (p0 : ApiAccount) (A_p01 : Option Addr) (n_p01 c_p01 : Nat) (A_p02 : Option Addr) (n_p02 c_p02 : Nat) (A_p03 : Option Addr) (n_p03 c_p03 : Nat) (A_p04 : Option Addr) (n_p04 c_p04 : Nat) (A_p05 : Option Addr) (n_p05 c_p05 : Nat) (hr_p01 : RdE w0 2 encApiHousehold A_p01 p0.Households) (hz_p01 : SW A_p01 n_p01 c_p01 (List.length p0.Households)) (hr_p02 : RdE w0 5 encApiContainer A_p02 p0.Containers) (hz_p02 : SW A_p02 n_p02 c_p02 (List.length p0.Containers)) (hr_p03 : RdE w0 4 encApiAssign A_p03 p0.Assigns) (hz_p03 : SW A_p03 n_p03 c_p03 (List.length p0.Assigns)) (hr_p04 : RdE w0 7 encApiEmptying A_p04 p0.Emptyings) (hz_p04 : SW A_p04 n_p04 c_p04 (List.length p0.Emptyings)) (hr_p05 : RdE w0 5 encApiTariff A_p05 p0.Tariffs) (hz_p05 : SW A_p05 n_p05 c_p05 (List.length p0.Tariffs)) (r : Int) (hr : m_bill_Check N p0 = some r) :
  Calls Tryz.prog 12 [.agg #[.slice A_p01 n_p01 c_p01, .slice A_p02 n_p02 c_p02, .slice A_p03 n_p03 c_p03, .slice A_p04 n_p04 c_p04, .slice A_p05 n_p05 c_p05, .int .i64 p0.Gap]].toArray w0 fun x w1 => ∃ u, x = .returned ((fun (r : Int) (_u : Unit) => .int .i64 r) r u) ∧ Hs w0 ((fun (_r : Int) (_u : Unit) => []) r u) w1 := by
 refine calls_cm (n := 47) (R := fun r x w1 => ∃ u, x = .returned ((fun (r : Int) (_u : Unit) => .int .i64 r) r u) ∧ Hs w0 ((fun (_r : Int) (_u : Unit) => []) r u) w1) Tryz.func12 rfl rfl (Nat.le_of_ble_eq_true rfl) ?_ r hr
 unfold m_bill_Check
 refine cq ?_
 refine cr ?_
 refine lm_box 1 [.slice _ _ _, .slice _ _ _, .slice _ _ _, .slice _ _ _, .slice _ _ _, .int .i64 _] (by kernel_rfl) rfl ?_
 intro b5
 refine lv 2 (by kernel_rfl) (fun w1 c1 => (oa (v := .int .i64 _) rfl)) ?_
 refine ln ?_
 refine xn ?_
 refine cq ?_
 refine cr ?_
 refine lv 8 (by kernel_rfl) (fun w1 c1 => (oF (m := 1) (k := 1) rfl (by kernel_rfl) rfl)) ?_
 refine lv 9 (by kernel_rfl) (fun w1 c1 => (ol rfl (by kernel_rfl) (c1.cell 0 (u := .slice _ _ _) rfl rfl))) ?_
 refine lv 10 (by kernel_rfl) (fun w1 c1 => (op_lenN rfl (by kernel_rfl) hz_p02.2.2)) ?_
 refine lv 3 (by kernel_rfl) (fun w1 c1 => (oa (v := .int .i64 _) rfl)) ?_
 refine ln ?_
 refine xn ?_
 refine cq ?_
 refine cq ?_
 refine cr ?_
 refine lv 11 (by kernel_rfl) (fun w1 c1 => (oF (m := 1) (k := 1) rfl (by kernel_rfl) rfl)) ?_
 refine lv 12 (by kernel_rfl) (fun w1 c1 => (ol rfl (by kernel_rfl) (c1.cell 0 (u := .slice _ _ _) rfl rfl))) ?_
 refine lm_call 13 (V := (fun (r : Int) (_u : Unit) => .int .i64 r)) (HR := (fun (_r : Int) (_u : Unit) => [])) (by kernel_rfl) (fun w1 => op_call (by kernel_rfl)) (fun r1 hr1 w1 c1 => m_container_Check_ok N w1 p0.Containers (16 : Int) (64 : Int) A_p02 n_p02 c_p02 (hr_p02.old c1) hz_p02 r1 hr1) ?_
 intro r6 u7
 refine lv 4 (by kernel_rfl) (fun w1 c1 => (oa (v := .int .i64 _) rfl)) ?_
 refine ln ?_
 refine xn ?_
 refine cq ?_
 refine cr ?_
 refine lv 14 (by kernel_rfl) (fun w1 c1 => (om (v := .int .i64 _) rfl)) ?_
 refine lv 15 (by kernel_rfl) (fun w1 c1 => (op_neq rfl rfl)) ?_
 refine ln ?_
 refine xn ?_
 refine cm_cond (by kernel_rfl) rfl (fun h8 => ?_) (fun h8 => ?_)
 ·skip
  refine cq ?_
  refine cr ?_
  refine lv 16 (by kernel_rfl) (fun w1 c1 => (om (v := .int .i64 _) rfl)) ?_
  refine lv 2 (by kernel_rfl) (fun w1 c1 => (oa (v := .int .i64 _) rfl)) ?_
  refine ln ?_
  refine xn ?_
  refine cm_ret ?_
  refine xm_thenR ?_
  exact xm_retT rfl (by kernel_rfl) (show _ = Value.int .i64 _ from rfl) fun w1 c1 => ⟨(), rfl, hsub [] (by kernel_rfl) rfl w1 c1⟩
 ·skip
  refine cm_skip ?_
  refine xn ?_
  refine cq ?_
  refine cq ?_
  refine cr ?_
  refine lv 17 (by kernel_rfl) (fun w1 c1 => (oF (m := 0) (k := 0) rfl (by kernel_rfl) rfl)) ?_
  refine lv 18 (by kernel_rfl) (fun w1 c1 => (ol rfl (by kernel_rfl) (c1.cell 0 (u := .slice _ _ _) rfl rfl))) ?_
  refine lv 19 (by kernel_rfl) (fun w1 c1 => (om (v := .int .i64 _) rfl)) ?_
  refine lv 20 (by kernel_rfl) (fun w1 c1 => (oF (m := 2) (k := 2) rfl (by kernel_rfl) rfl)) ?_
  refine lv 21 (by kernel_rfl) (fun w1 c1 => (ol rfl (by kernel_rfl) (c1.cell 0 (u := .slice _ _ _) rfl rfl))) ?_
  refine lm_call 22 (V := (fun (r : Int) (_u : Unit) => .int .i64 r)) (HR := (fun (_r : Int) (_u : Unit) => [])) (by kernel_rfl) (fun w1 => op_call (by kernel_rfl)) (fun r1 hr1 w1 c1 => m_household_Check_ok N w1 p0.Households (List.length p0.Containers : Int) p0.Assigns A_p01 n_p01 c_p01 A_p03 n_p03 c_p03 (hr_p01.old c1) hz_p01 (hr_p03.old c1) hz_p03 r1 hr1) ?_
  intro r9 u10
  refine lv 5 (by kernel_rfl) (fun w1 c1 => (oa (v := .int .i64 _) rfl)) ?_
  refine ln ?_
  refine xn ?_
  refine cq ?_
  refine cr ?_
  refine lv 23 (by kernel_rfl) (fun w1 c1 => (om (v := .int .i64 _) rfl)) ?_
  refine lv 24 (by kernel_rfl) (fun w1 c1 => (op_neq rfl rfl)) ?_
  refine ln ?_
  refine xn ?_
  refine cm_cond (by kernel_rfl) rfl (fun h11 => ?_) (fun h11 => ?_)
  ·skip
   refine cq ?_
   refine cr ?_
   refine lv 25 (by kernel_rfl) (fun w1 c1 => (om (v := .int .i64 _) rfl)) ?_
   refine lv 2 (by kernel_rfl) (fun w1 c1 => (oa (v := .int .i64 _) rfl)) ?_
   refine ln ?_
   refine xn ?_
   refine cm_ret ?_
   refine xm_thenR ?_
   exact xm_retT rfl (by kernel_rfl) (show _ = Value.int .i64 _ from rfl) fun w1 c1 => ⟨(), rfl, hsub [] (by kernel_rfl) rfl w1 c1⟩
  ·skip
   refine cm_skip ?_
   refine xn ?_
   refine cq ?_
   refine cq ?_
   refine cr ?_
   refine lv 26 (by kernel_rfl) (fun w1 c1 => (oF (m := 3) (k := 3) rfl (by kernel_rfl) rfl)) ?_
   refine lv 27 (by kernel_rfl) (fun w1 c1 => (ol rfl (by kernel_rfl) (c1.cell 0 (u := .slice _ _ _) rfl rfl))) ?_
   refine lv 28 (by kernel_rfl) (fun w1 c1 => (om (v := .int .i64 _) rfl)) ?_
   refine lm_call 29 (V := (fun (r : Int) (_u : Unit) => .int .i64 r)) (HR := (fun (_r : Int) (_u : Unit) => [])) (by kernel_rfl) (fun w1 => op_call (by kernel_rfl)) (fun r1 hr1 w1 c1 => m_emptying_Check_ok N w1 p0.Emptyings (List.length p0.Containers : Int) (16 : Int) A_p04 n_p04 c_p04 (hr_p04.old c1) hz_p04 r1 hr1) ?_
   intro r12 u13
   refine lv 6 (by kernel_rfl) (fun w1 c1 => (oa (v := .int .i64 _) rfl)) ?_
   refine ln ?_
   refine xn ?_
   refine cq ?_
   refine cr ?_
   refine lv 30 (by kernel_rfl) (fun w1 c1 => (om (v := .int .i64 _) rfl)) ?_
   refine lv 31 (by kernel_rfl) (fun w1 c1 => (op_neq rfl rfl)) ?_
   refine ln ?_
   refine xn ?_
   refine cm_cond (by kernel_rfl) rfl (fun h14 => ?_) (fun h14 => ?_)
   ·skip
    refine cq ?_
    refine cr ?_
    refine lv 32 (by kernel_rfl) (fun w1 c1 => (om (v := .int .i64 _) rfl)) ?_
    refine lv 2 (by kernel_rfl) (fun w1 c1 => (oa (v := .int .i64 _) rfl)) ?_
    refine ln ?_
    refine xn ?_
    refine cm_ret ?_
    refine xm_thenR ?_
    exact xm_retT rfl (by kernel_rfl) (show _ = Value.int .i64 _ from rfl) fun w1 c1 => ⟨(), rfl, hsub [] (by kernel_rfl) rfl w1 c1⟩
   ·skip
    refine cm_skip ?_
    refine xn ?_
    refine cq ?_
    refine cq ?_
    refine cr ?_
    refine lv 33 (by kernel_rfl) (fun w1 c1 => (oF (m := 4) (k := 4) rfl (by kernel_rfl) rfl)) ?_
    refine lv 34 (by kernel_rfl) (fun w1 c1 => (ol rfl (by kernel_rfl) (c1.cell 0 (u := .slice _ _ _) rfl rfl))) ?_
    refine lm_call 35 (V := (fun (r : Int) (_u : Unit) => .int .i64 r)) (HR := (fun (_r : Int) (_u : Unit) => [])) (by kernel_rfl) (fun w1 => op_call (by kernel_rfl)) (fun r1 hr1 w1 c1 => m_tariff_Check_ok N w1 p0.Tariffs A_p05 n_p05 c_p05 (hr_p05.old c1) hz_p05 r1 hr1) ?_
    intro r15 u16
    refine lv 7 (by kernel_rfl) (fun w1 c1 => (oa (v := .int .i64 _) rfl)) ?_
    refine ln ?_
    refine xn ?_
    refine cq ?_
    refine cr ?_
    refine lv 36 (by kernel_rfl) (fun w1 c1 => (om (v := .int .i64 _) rfl)) ?_
    refine lv 37 (by kernel_rfl) (fun w1 c1 => (op_neq rfl rfl)) ?_
    refine ln ?_
    refine xn ?_
    refine cm_cond (by kernel_rfl) rfl (fun h17 => ?_) (fun h17 => ?_)
    ·skip
     refine cq ?_
     refine cr ?_
     refine lv 38 (by kernel_rfl) (fun w1 c1 => (om (v := .int .i64 _) rfl)) ?_
     refine lv 2 (by kernel_rfl) (fun w1 c1 => (oa (v := .int .i64 _) rfl)) ?_
     refine ln ?_
     refine xn ?_
     refine cm_ret ?_
     refine xm_thenR ?_
     exact xm_retT rfl (by kernel_rfl) (show _ = Value.int .i64 _ from rfl) fun w1 c1 => ⟨(), rfl, hsub [] (by kernel_rfl) rfl w1 c1⟩
    ·skip
     refine cm_skip ?_
     refine xn ?_
     refine cq ?_
     refine cq ?_
     refine cm_cutE [(46, .bool ((decide (p0.Gap < 0)) || (decide (86400 < p0.Gap))))] ?_ ?_
     ·skip
      refine wv 39 (by kernel_rfl) (fun w1 c1 => (oF (m := 5) (k := 5) rfl (by kernel_rfl) rfl)) ?_
      refine wv 40 (by kernel_rfl) (fun w1 c1 => (ol rfl (by kernel_rfl) (c1.cell 0 (u := .int .i64 _) rfl rfl))) ?_
      refine wq_dec 41 (by kernel_rfl) (fun w1 c1 => (op_lss rfl rfl)) (fun h18 => ?_) (fun h18 => ?_)
      ·skip
       refine wv 42 (by kernel_rfl) (fun w1 c1 => (om (v := .bool true) rfl)) ?_
       refine wk 43 (by kernel_rfl) ?_
       refine wk 44 (by kernel_rfl) ?_
       refine wk 45 (by kernel_rfl) ?_
       refine wv 46 (by kernel_rfl) (fun w1 c1 => (opt (v := .bool true) rfl rfl)) ?_
       exact leaf_q (sub_out 8 _ rfl (by kernel_rfl) ⟨(congrArg Value.bool (by rw [decide_eq_true h18] <;> rfl)), trivial⟩)
      ·skip
       refine wv 42 (by kernel_rfl) (fun w1 c1 => (om (v := .bool false) rfl)) ?_
       refine wv 43 (by kernel_rfl) (fun w1 c1 => (oF (m := 5) (k := 5) rfl (by kernel_rfl) rfl)) ?_
       refine wv 44 (by kernel_rfl) (fun w1 c1 => (ol rfl (by kernel_rfl) (c1.cell 0 (u := .int .i64 _) rfl rfl))) ?_
       refine wv 45 (by kernel_rfl) (fun w1 c1 => (op_gtr rfl rfl)) ?_
       refine wv 46 (by kernel_rfl) (fun w1 c1 => (opf (v := .bool _) rfl rfl)) ?_
       exact leaf_q (sub_out 8 _ rfl (by kernel_rfl) ⟨(congrArg Value.bool (by rw [decide_eq_false h18] <;> rfl)), trivial⟩)
     refine xn ?_
     refine cm_condB (by kernel_rfl) rfl (fun h19 => ?_) (fun h19 => ?_)
     ·skip
      refine cq ?_
      refine cr ?_
      refine lv 2 (by kernel_rfl) (fun w1 c1 => (oa (v := .int .i64 _) rfl)) ?_
      refine ln ?_
      refine xn ?_
      refine cm_ret ?_
      refine xm_thenR ?_
      exact xm_retT rfl (by kernel_rfl) (show _ = Value.int .i64 _ from rfl) fun w1 c1 => ⟨(), rfl, hsub [] (by kernel_rfl) rfl w1 c1⟩
     ·skip
      refine cm_skip ?_
      refine xn ?_
      refine cq ?_
      refine cr ?_
      refine lv 2 (by kernel_rfl) (fun w1 c1 => (oa (v := .int .i64 _) rfl)) ?_
      refine ln ?_
      refine xn ?_
      refine cm_ret ?_
      exact xm_retT rfl (by kernel_rfl) (show _ = Value.int .i64 _ from rfl) fun w1 c1 => ⟨(), rfl, hsub [] (by kernel_rfl) rfl w1 c1⟩
/-- recyclingref54.Check -/
def m_recyclingref54_Check (N : Nat) (p0 : ApiAccount) : Option (Int) :=
 Option.bind (m_recyclingref13_Check N p0.Containers (16 : Int) (64 : Int)) fun r6 => (if r6 ≠ 0 then
  some (r6)
 else
  Option.bind (m_recyclingref14_Check N p0.Households (List.length p0.Containers : Int) p0.Assigns) fun r9 => (if r9 ≠ 0 then
   some (r9)
  else
   Option.bind (m_recyclingref18_Check N p0.Emptyings (List.length p0.Containers : Int) (16 : Int)) fun r12 => (if r12 ≠ 0 then
    some (r12)
   else
    Option.bind (m_recyclingref53_Check N p0.Tariffs) fun r15 => (if r15 ≠ 0 then
     some (r15)
    else
     (if ((decide (p0.Gap < 0)) || (decide (86400 < p0.Gap))) = true then
      some ((1 : Int))
     else
      some ((0 : Int)))))))
set_option maxHeartbeats 2000000 in
set_option maxRecDepth 20000 in
theorem m_recyclingref54_Check_ok (N : Nat) (w0 : World) (p0 : ApiAccount) (A_p01 : Option Addr) (n_p01 c_p01 : Nat) (A_p02 : Option Addr) (n_p02 c_p02 : Nat) (A_p03 : Option Addr) (n_p03 c_p03 : Nat) (A_p04 : Option Addr) (n_p04 c_p04 : Nat) (A_p05 : Option Addr) (n_p05 c_p05 : Nat) (hr_p01 : RdE w0 2 encApiHousehold A_p01 p0.Households) (hz_p01 : SW A_p01 n_p01 c_p01 (List.length p0.Households)) (hr_p02 : RdE w0 5 encApiContainer A_p02 p0.Containers) (hz_p02 : SW A_p02 n_p02 c_p02 (List.length p0.Containers)) (hr_p03 : RdE w0 4 encApiAssign A_p03 p0.Assigns) (hz_p03 : SW A_p03 n_p03 c_p03 (List.length p0.Assigns)) (hr_p04 : RdE w0 7 encApiEmptying A_p04 p0.Emptyings) (hz_p04 : SW A_p04 n_p04 c_p04 (List.length p0.Emptyings)) (hr_p05 : RdE w0 5 encApiTariff A_p05 p0.Tariffs) (hz_p05 : SW A_p05 n_p05 c_p05 (List.length p0.Tariffs)) (r : Int) (hr : m_recyclingref54_Check N p0 = some r) :
  Calls Tryz.prog 16 [.agg #[.slice A_p01 n_p01 c_p01, .slice A_p02 n_p02 c_p02, .slice A_p03 n_p03 c_p03, .slice A_p04 n_p04 c_p04, .slice A_p05 n_p05 c_p05, .int .i64 p0.Gap]].toArray w0 fun x w1 => ∃ u, x = .returned ((fun (r : Int) (_u : Unit) => .int .i64 r) r u) ∧ Hs w0 ((fun (_r : Int) (_u : Unit) => []) r u) w1 := by
 refine calls_cm (n := 47) (R := fun r x w1 => ∃ u, x = .returned ((fun (r : Int) (_u : Unit) => .int .i64 r) r u) ∧ Hs w0 ((fun (_r : Int) (_u : Unit) => []) r u) w1) Tryz.func16 rfl rfl (Nat.le_of_ble_eq_true rfl) ?_ r hr
 unfold m_recyclingref54_Check
 refine cq ?_
 refine cr ?_
 refine lm_box 1 [.slice _ _ _, .slice _ _ _, .slice _ _ _, .slice _ _ _, .slice _ _ _, .int .i64 _] (by kernel_rfl) rfl ?_
 intro b5
 refine lv 2 (by kernel_rfl) (fun w1 c1 => (oa (v := .int .i64 _) rfl)) ?_
 refine ln ?_
 refine xn ?_
 refine cq ?_
 refine cq ?_
 refine cr ?_
 refine lv 7 (by kernel_rfl) (fun w1 c1 => (oF (m := 1) (k := 1) rfl (by kernel_rfl) rfl)) ?_
 refine lv 8 (by kernel_rfl) (fun w1 c1 => (ol rfl (by kernel_rfl) (c1.cell 0 (u := .slice _ _ _) rfl rfl))) ?_
 refine lm_call 9 (V := (fun (r : Int) (_u : Unit) => .int .i64 r)) (HR := (fun (_r : Int) (_u : Unit) => [])) (by kernel_rfl) (fun w1 => op_call (by kernel_rfl)) (fun r1 hr1 w1 c1 => m_recyclingref13_Check_ok N w1 p0.Containers (16 : Int) (64 : Int) A_p02 n_p02 c_p02 (hr_p02.old c1) hz_p02 r1 hr1) ?_
 intro r6 u7
 refine lv 3 (by kernel_rfl) (fun w1 c1 => (oa (v := .int .i64 _) rfl)) ?_
 refine ln ?_
 refine xn ?_
 refine cq ?_
 refine cr ?_
 refine lv 10 (by kernel_rfl) (fun w1 c1 => (om (v := .int .i64 _) rfl)) ?_
 refine lv 11 (by kernel_rfl) (fun w1 c1 => (op_neq rfl rfl)) ?_
 refine ln ?_
 refine xn ?_
 refine cm_cond (by kernel_rfl) rfl (fun h8 => ?_) (fun h8 => ?_)
 ·skip
  refine cq ?_
  refine cr ?_
  refine lv 12 (by kernel_rfl) (fun w1 c1 => (om (v := .int .i64 _) rfl)) ?_
  refine lv 2 (by kernel_rfl) (fun w1 c1 => (oa (v := .int .i64 _) rfl)) ?_
  refine ln ?_
  refine xn ?_
  refine cm_ret ?_
  refine xm_thenR ?_
  exact xm_retT rfl (by kernel_rfl) (show _ = Value.int .i64 _ from rfl) fun w1 c1 => ⟨(), rfl, hsub [] (by kernel_rfl) rfl w1 c1⟩
 ·skip
  refine cm_skip ?_
  refine xn ?_
  refine cq ?_
  refine cq ?_
  refine cr ?_
  refine lv 13 (by kernel_rfl) (fun w1 c1 => (oF (m := 0) (k := 0) rfl (by kernel_rfl) rfl)) ?_
  refine lv 14 (by kernel_rfl) (fun w1 c1 => (ol rfl (by kernel_rfl) (c1.cell 0 (u := .slice _ _ _) rfl rfl))) ?_
  refine lv 15 (by kernel_rfl) (fun w1 c1 => (oF (m := 1) (k := 1) rfl (by kernel_rfl) rfl)) ?_
  refine lv 16 (by kernel_rfl) (fun w1 c1 => (ol rfl (by kernel_rfl) (c1.cell 0 (u := .slice _ _ _) rfl rfl))) ?_
  refine lv 17 (by kernel_rfl) (fun w1 c1 => (op_lenN rfl (by kernel_rfl) hz_p02.2.2)) ?_
  refine lv 18 (by kernel_rfl) (fun w1 c1 => (oF (m := 2) (k := 2) rfl (by kernel_rfl) rfl)) ?_
  refine lv 19 (by kernel_rfl) (fun w1 c1 => (ol rfl (by kernel_rfl) (c1.cell 0 (u := .slice _ _ _) rfl rfl))) ?_
  refine lm_call 20 (V := (fun (r : Int) (_u : Unit) => .int .i64 r)) (HR := (fun (_r : Int) (_u : Unit) => [])) (by kernel_rfl) (fun w1 => op_call (by kernel_rfl)) (fun r1 hr1 w1 c1 => m_recyclingref14_Check_ok N w1 p0.Households (List.length p0.Containers : Int) p0.Assigns A_p01 n_p01 c_p01 A_p03 n_p03 c_p03 (hr_p01.old c1) hz_p01 (hr_p03.old c1) hz_p03 r1 hr1) ?_
  intro r9 u10
  refine lv 4 (by kernel_rfl) (fun w1 c1 => (oa (v := .int .i64 _) rfl)) ?_
  refine ln ?_
  refine xn ?_
  refine cq ?_
  refine cr ?_
  refine lv 21 (by kernel_rfl) (fun w1 c1 => (om (v := .int .i64 _) rfl)) ?_
  refine lv 22 (by kernel_rfl) (fun w1 c1 => (op_neq rfl rfl)) ?_
  refine ln ?_
  refine xn ?_
  refine cm_cond (by kernel_rfl) rfl (fun h11 => ?_) (fun h11 => ?_)
  ·skip
   refine cq ?_
   refine cr ?_
   refine lv 23 (by kernel_rfl) (fun w1 c1 => (om (v := .int .i64 _) rfl)) ?_
   refine lv 2 (by kernel_rfl) (fun w1 c1 => (oa (v := .int .i64 _) rfl)) ?_
   refine ln ?_
   refine xn ?_
   refine cm_ret ?_
   refine xm_thenR ?_
   exact xm_retT rfl (by kernel_rfl) (show _ = Value.int .i64 _ from rfl) fun w1 c1 => ⟨(), rfl, hsub [] (by kernel_rfl) rfl w1 c1⟩
  ·skip
   refine cm_skip ?_
   refine xn ?_
   refine cq ?_
   refine cq ?_
   refine cr ?_
   refine lv 24 (by kernel_rfl) (fun w1 c1 => (oF (m := 3) (k := 3) rfl (by kernel_rfl) rfl)) ?_
   refine lv 25 (by kernel_rfl) (fun w1 c1 => (ol rfl (by kernel_rfl) (c1.cell 0 (u := .slice _ _ _) rfl rfl))) ?_
   refine lv 26 (by kernel_rfl) (fun w1 c1 => (oF (m := 1) (k := 1) rfl (by kernel_rfl) rfl)) ?_
   refine lv 27 (by kernel_rfl) (fun w1 c1 => (ol rfl (by kernel_rfl) (c1.cell 0 (u := .slice _ _ _) rfl rfl))) ?_
   refine lv 28 (by kernel_rfl) (fun w1 c1 => (op_lenN rfl (by kernel_rfl) hz_p02.2.2)) ?_
   refine lm_call 29 (V := (fun (r : Int) (_u : Unit) => .int .i64 r)) (HR := (fun (_r : Int) (_u : Unit) => [])) (by kernel_rfl) (fun w1 => op_call (by kernel_rfl)) (fun r1 hr1 w1 c1 => m_recyclingref18_Check_ok N w1 p0.Emptyings (List.length p0.Containers : Int) (16 : Int) A_p04 n_p04 c_p04 (hr_p04.old c1) hz_p04 r1 hr1) ?_
   intro r12 u13
   refine lv 5 (by kernel_rfl) (fun w1 c1 => (oa (v := .int .i64 _) rfl)) ?_
   refine ln ?_
   refine xn ?_
   refine cq ?_
   refine cr ?_
   refine lv 30 (by kernel_rfl) (fun w1 c1 => (om (v := .int .i64 _) rfl)) ?_
   refine lv 31 (by kernel_rfl) (fun w1 c1 => (op_neq rfl rfl)) ?_
   refine ln ?_
   refine xn ?_
   refine cm_cond (by kernel_rfl) rfl (fun h14 => ?_) (fun h14 => ?_)
   ·skip
    refine cq ?_
    refine cr ?_
    refine lv 32 (by kernel_rfl) (fun w1 c1 => (om (v := .int .i64 _) rfl)) ?_
    refine lv 2 (by kernel_rfl) (fun w1 c1 => (oa (v := .int .i64 _) rfl)) ?_
    refine ln ?_
    refine xn ?_
    refine cm_ret ?_
    refine xm_thenR ?_
    exact xm_retT rfl (by kernel_rfl) (show _ = Value.int .i64 _ from rfl) fun w1 c1 => ⟨(), rfl, hsub [] (by kernel_rfl) rfl w1 c1⟩
   ·skip
    refine cm_skip ?_
    refine xn ?_
    refine cq ?_
    refine cq ?_
    refine cr ?_
    refine lv 33 (by kernel_rfl) (fun w1 c1 => (oF (m := 4) (k := 4) rfl (by kernel_rfl) rfl)) ?_
    refine lv 34 (by kernel_rfl) (fun w1 c1 => (ol rfl (by kernel_rfl) (c1.cell 0 (u := .slice _ _ _) rfl rfl))) ?_
    refine lm_call 35 (V := (fun (r : Int) (_u : Unit) => .int .i64 r)) (HR := (fun (_r : Int) (_u : Unit) => [])) (by kernel_rfl) (fun w1 => op_call (by kernel_rfl)) (fun r1 hr1 w1 c1 => m_recyclingref53_Check_ok N w1 p0.Tariffs A_p05 n_p05 c_p05 (hr_p05.old c1) hz_p05 r1 hr1) ?_
    intro r15 u16
    refine lv 6 (by kernel_rfl) (fun w1 c1 => (oa (v := .int .i64 _) rfl)) ?_
    refine ln ?_
    refine xn ?_
    refine cq ?_
    refine cr ?_
    refine lv 36 (by kernel_rfl) (fun w1 c1 => (om (v := .int .i64 _) rfl)) ?_
    refine lv 37 (by kernel_rfl) (fun w1 c1 => (op_neq rfl rfl)) ?_
    refine ln ?_
    refine xn ?_
    refine cm_cond (by kernel_rfl) rfl (fun h17 => ?_) (fun h17 => ?_)
    ·skip
     refine cq ?_
     refine cr ?_
     refine lv 38 (by kernel_rfl) (fun w1 c1 => (om (v := .int .i64 _) rfl)) ?_
     refine lv 2 (by kernel_rfl) (fun w1 c1 => (oa (v := .int .i64 _) rfl)) ?_
     refine ln ?_
     refine xn ?_
     refine cm_ret ?_
     refine xm_thenR ?_
     exact xm_retT rfl (by kernel_rfl) (show _ = Value.int .i64 _ from rfl) fun w1 c1 => ⟨(), rfl, hsub [] (by kernel_rfl) rfl w1 c1⟩
    ·skip
     refine cm_skip ?_
     refine xn ?_
     refine cq ?_
     refine cq ?_
     refine cm_cutE [(46, .bool ((decide (p0.Gap < 0)) || (decide (86400 < p0.Gap))))] ?_ ?_
     ·skip
      refine wv 39 (by kernel_rfl) (fun w1 c1 => (oF (m := 5) (k := 5) rfl (by kernel_rfl) rfl)) ?_
      refine wv 40 (by kernel_rfl) (fun w1 c1 => (ol rfl (by kernel_rfl) (c1.cell 0 (u := .int .i64 _) rfl rfl))) ?_
      refine wq_dec 41 (by kernel_rfl) (fun w1 c1 => (op_lss rfl rfl)) (fun h18 => ?_) (fun h18 => ?_)
      ·skip
       refine wv 42 (by kernel_rfl) (fun w1 c1 => (om (v := .bool true) rfl)) ?_
       refine wk 43 (by kernel_rfl) ?_
       refine wk 44 (by kernel_rfl) ?_
       refine wk 45 (by kernel_rfl) ?_
       refine wv 46 (by kernel_rfl) (fun w1 c1 => (opt (v := .bool true) rfl rfl)) ?_
       exact leaf_q (sub_out 8 _ rfl (by kernel_rfl) ⟨(congrArg Value.bool (by rw [decide_eq_true h18] <;> rfl)), trivial⟩)
      ·skip
       refine wv 42 (by kernel_rfl) (fun w1 c1 => (om (v := .bool false) rfl)) ?_
       refine wv 43 (by kernel_rfl) (fun w1 c1 => (oF (m := 5) (k := 5) rfl (by kernel_rfl) rfl)) ?_
       refine wv 44 (by kernel_rfl) (fun w1 c1 => (ol rfl (by kernel_rfl) (c1.cell 0 (u := .int .i64 _) rfl rfl))) ?_
       refine wv 45 (by kernel_rfl) (fun w1 c1 => (op_gtr rfl rfl)) ?_
       refine wv 46 (by kernel_rfl) (fun w1 c1 => (opf (v := .bool _) rfl rfl)) ?_
       exact leaf_q (sub_out 8 _ rfl (by kernel_rfl) ⟨(congrArg Value.bool (by rw [decide_eq_false h18] <;> rfl)), trivial⟩)
     refine xn ?_
     refine cm_condB (by kernel_rfl) rfl (fun h19 => ?_) (fun h19 => ?_)
     ·skip
      refine cq ?_
      refine cr ?_
      refine lv 2 (by kernel_rfl) (fun w1 c1 => (oa (v := .int .i64 _) rfl)) ?_
      refine ln ?_
      refine xn ?_
      refine cm_ret ?_
      refine xm_thenR ?_
      exact xm_retT rfl (by kernel_rfl) (show _ = Value.int .i64 _ from rfl) fun w1 c1 => ⟨(), rfl, hsub [] (by kernel_rfl) rfl w1 c1⟩
     ·skip
      refine cm_skip ?_
      refine xn ?_
      refine cq ?_
      refine cr ?_
      refine lv 2 (by kernel_rfl) (fun w1 c1 => (oa (v := .int .i64 _) rfl)) ?_
      refine ln ?_
      refine xn ?_
      refine cm_ret ?_
      exact xm_retT rfl (by kernel_rfl) (show _ = Value.int .i64 _ from rfl) fun w1 c1 => ⟨(), rfl, hsub [] (by kernel_rfl) rfl w1 c1⟩
end Go.Proofs.YtljogldcejcikaaGreat
