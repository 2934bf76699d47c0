/- Models of functions, and that the code follows them. Written by deco.py. -/
import Derived.Test.YtljogldcejcikaaGreatZCmp1
namespace Go.Proofs.YtljogldcejcikaaGreat
open Go.RowKit

/-- household.people$1 -/
def m_household_people_1 (_N : Nat) (p0 : ApiHousehold) (q0 : ApiHousehold) : Option (Bool) :=
 some ((decide (p0.ID = q0.ID)))
set_option maxRecDepth 20000 in
theorem m_household_people_1_ok (N : Nat) (w0 : World) (p0 : ApiHousehold) (q0 : ApiHousehold) (b_q0 : Nat) (hb_q0 : Blk w0 b_q0 47 [.string q0.ID, .int .i64 q0.Persons]) (r : Bool) (hr : m_household_people_1 N p0 q0 = some r) :
  Calls Tryz.prog 65 [.agg #[.string p0.ID, .int .i64 p0.Persons], .pointer (some ⟨b_q0, 0, none⟩)].toArray w0 fun x w1 => ∃ u, x = .returned ((fun (r : Bool) (_u : Unit) => .bool r) r u) ∧ Hs w0 ((fun (_r : Bool) (_u : Unit) => []) r u) w1 := by
 refine calls_cm (n := 9) (R := fun r x w1 => ∃ u, x = .returned ((fun (r : Bool) (_u : Unit) => .bool r) r u) ∧ Hs w0 ((fun (_r : Bool) (_u : Unit) => []) r u) w1) Tryz.func65 rfl rfl (Nat.le_of_ble_eq_true rfl) ?_ r hr
 unfold m_household_people_1
 refine cq ?_
 refine cr ?_
 refine lm_box 2 [.string _, .int .i64 _] (by kernel_rfl) rfl ?_
 intro b5
 refine lv 3 (by kernel_rfl) (fun w1 c1 => (oa (v := .bool false) rfl)) ?_
 refine ln ?_
 refine xn ?_
 refine cq ?_
 refine cr ?_
 refine lv 4 (by kernel_rfl) (fun w1 c1 => (oF (m := 0) (k := 0) rfl (by kernel_rfl) rfl)) ?_
 refine lv 5 (by kernel_rfl) (fun w1 c1 => (ol rfl (by kernel_rfl) (c1.cell 0 (u := .string _) rfl rfl))) ?_
 refine lv 6 (by kernel_rfl) (fun w1 c1 => (oF (m := 0) (k := 0) rfl (by kernel_rfl) rfl)) ?_
 refine lv 7 (by kernel_rfl) (fun w1 c1 => (ol rfl (by kernel_rfl) (c1.ocell (hb_q0.at_ 0 (u := .string _) rfl)))) ?_
 refine lv 8 (by kernel_rfl) (fun w1 c1 => (op_eqlS rfl rfl)) ?_
 refine lv 3 (by kernel_rfl) (fun w1 c1 => (oa (v := .bool _) rfl)) ?_
 refine ln ?_
 refine xn ?_
 refine cm_ret ?_
 exact xm_retT rfl (by kernel_rfl) (show _ = Value.bool _ from rfl) fun w1 c1 => ⟨(), rfl, hsub [] (by kernel_rfl) rfl w1 c1⟩
/-- slices.IndexFunc -/
def m_slices_IndexFunc_household_people_1 (N : Nat) (p0 : (List ApiHousehold)) (p1c0 : ApiHousehold) : Option (Int) :=
 (andThen
  (loopM (fun (s47 : Int) =>
   (if s47 < (List.length p0 : Int) then
    ck ((0 : Int) ≤ s47 ∧ s47 < (List.length p0 : Int)) (
     Option.bind (m_household_people_1 N (ix p0 s47) p1c0) fun r51 => (if r51 = true then
      some (.done (.done (s47)))
     else
      ck (I64 (s47 + (1 : Int))) (
       some (.next (s47 + (1 : Int))))))
   else
    some (.done (.next ())))) N (0 : Int))
 fun (_s29 : Unit) =>
  some ((-1 : Int)))
set_option maxRecDepth 20000 in
theorem m_slices_IndexFunc_household_people_1_ok (N : Nat) (w0 : World) (p0 : (List ApiHousehold)) (p1c0 : ApiHousehold) (A_p0 : Option Addr) (n_p0 c_p0 : Nat) (b_p1c0 : Nat) (hr_p0 : RdE w0 2 encApiHousehold A_p0 p0) (hz_p0 : SW A_p0 n_p0 c_p0 (List.length p0)) (hb_p1c0 : Blk w0 b_p1c0 47 [.string p1c0.ID, .int .i64 p1c0.Persons]) (r : Int) (hr : m_slices_IndexFunc_household_people_1 N p0 p1c0 = some r) :
  Calls Tryz.prog 72 [.slice A_p0 n_p0 c_p0, .func (.func 65) #[] #[.pointer (some ⟨b_p1c0, 0, none⟩)]].toArray w0 fun x w1 => ∃ u, x = .returned ((fun (r : Int) (_u : Unit) => .int .i64 r) r u) ∧ Hs w0 ((fun (_r : Int) (_u : Unit) => []) r u) w1 := by
 refine calls_cm (n := 19) (R := fun r x w1 => ∃ u, x = .returned ((fun (r : Int) (_u : Unit) => .int .i64 r) r u) ∧ Hs w0 ((fun (_r : Int) (_u : Unit) => []) r u) w1) Tryz.func72 rfl rfl (Nat.le_of_ble_eq_true rfl) ?_ r hr
 unfold m_slices_IndexFunc_household_people_1
 refine cq ?_
 refine cr ?_
 refine lv 4 (by kernel_rfl) (fun w1 c1 => (oa (v := .int .i64 _) rfl)) ?_
 refine ln ?_
 refine xn ?_
 refine cm_join (σ := Unit) (ξ := Unit) (fun s29 u30 => []) (fun s29 u30 => []) ?_ ?_
 ·skip
  refine cq ?_
  refine cr ?_
  refine lv 6 (by kernel_rfl) (fun w1 c1 => (om (v := .slice _ _ _) rfl)) ?_
  refine lv 7 (by kernel_rfl) (fun w1 c1 => (op_lenN rfl (by kernel_rfl) hz_p0.2.2)) ?_
  refine lv 8 (by kernel_rfl) (fun w1 c1 => (om (v := .int .i64 _) rfl)) ?_
  refine ln ?_
  refine xn ?_
  refine cm_block ?_
  refine cm_loop (σ := Int) (ξ := Unit) (fun s47 u48 => [(0, .slice A_p0 n_p0 c_p0), (1, .func (.func 65) #[] #[.pointer (some ⟨b_p1c0, 0, none⟩)]), (7, .int .i64 (List.length p0 : Int)), (8, .int .i64 s47)]) (fun s47 u48 => []) () ?_ ?_ ?_
  ·exact (sc (by kernel_rfl) rfl (sc (by kernel_rfl) rfl (sc (by kernel_rfl) rfl (sc (by kernel_rfl) rfl sub_nil))))
  ·exact hsub [] (by kernel_rfl) rfl
  intro s47 u48
  refine cq ?_
  refine cr ?_
  refine lv 9 (by kernel_rfl) (fun w1 c1 => (op_lss rfl rfl)) ?_
  refine ln ?_
  refine xn ?_
  refine cq ?_
  refine cm_cond (by kernel_rfl) rfl (fun h49 => ?_) (fun h49 => ?_)
  ·skip
   refine cm_skip ?_
   refine xn ?_
   refine cq ?_
   refine cm_block ?_
   refine cq ?_
   refine cr ?_
   refine lv 10 (by kernel_rfl) (fun w1 c1 => (om (v := .int .i64 _) rfl)) ?_
   refine lv 5 (by kernel_rfl) (fun w1 c1 => (oa (v := .int .i64 _) rfl)) ?_
   refine ln ?_
   refine xn ?_
   refine cq ?_
   refine cr ?_
   refine lv 11 (by kernel_rfl) (fun w1 c1 => (om (v := .func _ _ _) rfl)) ?_
   refine lv 12 (by kernel_rfl) (fun w1 c1 => (om (v := .slice _ _ _) rfl)) ?_
   refine lv 13 (by kernel_rfl) (fun w1 c1 => (om (v := .int .i64 _) rfl)) ?_
   refine lm_ck (fun h50 => ?_)
   refine lv 14 (by kernel_rfl) (fun w1 c1 => (op_indexA 2 rfl rfl (by kernel_rfl) ((hr_p0.old c1).addr h50.1 h50.2) hz_p0.2.2 h50.1 h50.2)) ?_
   refine lv 15 (by kernel_rfl) (fun w1 c1 => (op_loadR [.string ((ix p0 s47).ID), .int .i64 ((ix p0 s47).Persons)] rfl (by kernel_rfl) ((hr_p0.old c1).row h50.1 h50.2))) ?_
   refine lm_call 16 (V := (fun (r : Bool) (_u : Unit) => .bool r)) (HR := (fun (_r : Bool) (_u : Unit) => [])) (by kernel_rfl) (fun w1 => op_callv rfl (by kernel_rfl)) (fun r1 hr1 w1 c1 => m_household_people_1_ok N w1 (ix p0 s47) p1c0 b_p1c0 (c1.oblk hb_p1c0) r1 hr1) ?_
   intro r51 u52
   refine ln ?_
   refine xn ?_
   refine cm_condB (by kernel_rfl) rfl (fun h53 => ?_) (fun h53 => ?_)
   ·skip
    refine cq ?_
    refine cr ?_
    refine lv 17 (by kernel_rfl) (fun w1 c1 => (om (v := .int .i64 _) rfl)) ?_
    refine lv 4 (by kernel_rfl) (fun w1 c1 => (oa (v := .int .i64 _) rfl)) ?_
    refine ln ?_
    refine xn ?_
    refine cm_ret ?_
    refine xm_inR ?_
    refine xm_thenR ?_
    refine xm_lret ?_
    refine xm_inR ?_
    refine xm_lret ?_
    exact xm_retT rfl (by kernel_rfl) (show _ = Value.int .i64 _ from rfl) fun w1 c1 => ⟨(), rfl, hsub [] (by kernel_rfl) rfl w1 c1⟩
   ·skip
    refine cm_skip ?_
    refine xm_inN ?_
    refine xn ?_
    refine cr ?_
    refine lm_ck (fun h54 => ?_)
    refine lv 18 (by kernel_rfl) (fun w1 c1 => (op_add rfl rfl h54)) ?_
    refine lv 8 (by kernel_rfl) (fun w1 c1 => (om (v := .int .i64 _) rfl)) ?_
    refine ln ?_
    exact xm_lnext () (sc (by kernel_rfl) rfl (sc (by kernel_rfl) rfl (sc (by kernel_rfl) rfl (sc (by kernel_rfl) rfl sub_nil)))) (hsub [] (by kernel_rfl) rfl)
  ·skip
   refine cm_exit ?_
   refine xm_thenE ?_
   refine xm_lexit ?_
   refine xm_here ?_
   exact xm_lnext () sub_nil (hsub [] (by kernel_rfl) rfl)
 intro s29 u30
 refine cq ?_
 refine cr ?_
 refine lv 4 (by kernel_rfl) (fun w1 c1 => (oa (v := .int .i64 _) rfl)) ?_
 refine ln ?_
 refine xn ?_
 refine cm_ret ?_
 exact xm_retT rfl (by kernel_rfl) (show _ = Value.int .i64 _ from rfl) fun w1 c1 => ⟨(), rfl, hsub [] (by kernel_rfl) rfl w1 c1⟩
/-- slices.ContainsFunc -/
def m_slices_ContainsFunc_household_people_1 (N : Nat) (p0 : (List ApiHousehold)) (p1c0 : ApiHousehold) : Option (Bool) :=
 Option.bind (m_slices_IndexFunc_household_people_1 N p0 p1c0) fun r5 => some ((decide (0 ≤ r5)))
set_option maxRecDepth 20000 in
theorem m_slices_ContainsFunc_household_people_1_ok (N : Nat) (w0 : World) (p0 : (List ApiHousehold)) (p1c0 : ApiHousehold) (A_p0 : Option Addr) (n_p0 c_p0 : Nat) (b_p1c0 : Nat) (hr_p0 : RdE w0 2 encApiHousehold A_p0 p0) (hz_p0 : SW A_p0 n_p0 c_p0 (List.length p0)) (hb_p1c0 : Blk w0 b_p1c0 47 [.string p1c0.ID, .int .i64 p1c0.Persons]) (r : Bool) (hr : m_slices_ContainsFunc_household_people_1 N p0 p1c0 = some r) :
  Calls Tryz.prog 64 [.slice A_p0 n_p0 c_p0, .func (.func 65) #[] #[.pointer (some ⟨b_p1c0, 0, none⟩)]].toArray w0 fun x w1 => ∃ u, x = .returned ((fun (r : Bool) (_u : Unit) => .bool r) r u) ∧ Hs w0 ((fun (_r : Bool) (_u : Unit) => []) r u) w1 := by
 refine calls_cm (n := 9) (R := fun r x w1 => ∃ u, x = .returned ((fun (r : Bool) (_u : Unit) => .bool r) r u) ∧ Hs w0 ((fun (_r : Bool) (_u : Unit) => []) r u) w1) Tryz.func64 rfl rfl (Nat.le_of_ble_eq_true rfl) ?_ r hr
 unfold m_slices_ContainsFunc_household_people_1
 refine cq ?_
 refine cr ?_
 refine lv 4 (by kernel_rfl) (fun w1 c1 => (oa (v := .bool false) rfl)) ?_
 refine ln ?_
 refine xn ?_
 refine cq ?_
 refine cr ?_
 refine lv 5 (by kernel_rfl) (fun w1 c1 => (om (v := .slice _ _ _) rfl)) ?_
 refine lv 6 (by kernel_rfl) (fun w1 c1 => (om (v := .func _ _ _) rfl)) ?_
 refine lm_call 7 (V := (fun (r : Int) (_u : Unit) => .int .i64 r)) (HR := (fun (_r : Int) (_u : Unit) => [])) (by kernel_rfl) (fun w1 => op_call (by kernel_rfl)) (fun r1 hr1 w1 c1 => m_slices_IndexFunc_household_people_1_ok N w1 p0 p1c0 A_p0 n_p0 c_p0 b_p1c0 (hr_p0.old c1) hz_p0 (c1.oblk hb_p1c0) r1 hr1) ?_
 intro r5 u6
 refine lv 8 (by kernel_rfl) (fun w1 c1 => (op_geq rfl rfl)) ?_
 refine lv 4 (by kernel_rfl) (fun w1 c1 => (oa (v := .bool _) rfl)) ?_
 refine ln ?_
 refine xn ?_
 refine cm_ret ?_
 exact xm_retT rfl (by kernel_rfl) (show _ = Value.bool _ from rfl) fun w1 c1 => ⟨(), rfl, hsub [] (by kernel_rfl) rfl w1 c1⟩
/-- household.people -/
def m_household_people (N : Nat) (p0 : (List ApiHousehold)) : Option (Int) :=
 (if 256 < (List.length p0 : Int) then
  some ((8 : Int))
 else
  (andThen
   (loopM (fun (s63 : Int) =>
    (if s63 < (List.length p0 : Int) then
     ck ((0 : Int) ≤ s63 ∧ s63 < (List.length p0 : Int)) (
      Option.bind (m_ident_Valid N ((ix p0 s63).ID)) fun r68 => (if (!r68) = true then
       some (.done (.done ((5 : Int))))
      else
       (if ((decide ((ix p0 s63).Persons < 1)) || (decide (100 < (ix p0 s63).Persons))) = true then
        some (.done (.done ((1 : Int))))
       else
        ck (I64 (s63 + (1 : Int))) (
         some (.next (s63 + (1 : Int)))))))
    else
     some (.done (.next ())))) N (0 : Int))
  fun (_s39 : Unit) =>
   (andThen
    (loopM (fun (s126 : Int) =>
     (if s126 < (List.length p0 : Int) then
      ck ((0 : Int) ≤ s126 ∧ s126 < (List.length p0 : Int)) (
       ck ((0 : Int) ≤ s126 ∧ s126 ≤ (List.length p0 : Int)) (
        Option.bind (m_slices_ContainsFunc_household_people_1 N (List.take (Int.toNat s126) p0) (ix p0 s126)) fun r132 => (if r132 = true then
         some (.done (.done ((6 : Int))))
        else
         ck (I64 (s126 + (1 : Int))) (
          some (.next (s126 + (1 : Int)))))))
     else
      some (.done (.next ())))) N (0 : Int))
   fun (_s104 : Unit) =>
    some ((0 : Int)))))
set_option maxHeartbeats 2000000 in
set_option maxRecDepth 20000 in
theorem m_household_people_ok (N : Nat) (w0 : World) (p0 : (List ApiHousehold)) (A_p0 : Option Addr) (n_p0 c_p0 : Nat) (hr_p0 : RdE w0 2 encApiHousehold A_p0 p0) (hz_p0 : SW A_p0 n_p0 c_p0 (List.length p0)) (r : Int) (hr : m_household_people N p0 = some r) :
  Calls Tryz.prog 46 [.slice A_p0 n_p0 c_p0].toArray w0 fun x w1 => ∃ u, x = .returned ((fun (r : Int) (_u : Unit) => .int .i64 r) r u) ∧ Hs w0 ((fun (_r : Int) (_u : Unit) => []) r u) w1 := by
 refine calls_cm (n := 42) (R := fun r x w1 => ∃ u, x = .returned ((fun (r : Int) (_u : Unit) => .int .i64 r) r u) ∧ Hs w0 ((fun (_r : Int) (_u : Unit) => []) r u) w1) Tryz.func46 rfl rfl (Nat.le_of_ble_eq_true rfl) ?_ r hr
 unfold m_household_people
 refine cq ?_
 refine cr ?_
 refine lv 2 (by kernel_rfl) (fun w1 c1 => (oa (v := .int .i64 _) rfl)) ?_
 refine ln ?_
 refine xn ?_
 refine cq ?_
 refine cq ?_
 refine cr ?_
 refine lv 7 (by kernel_rfl) (fun w1 c1 => (om (v := .slice _ _ _) rfl)) ?_
 refine lv 8 (by kernel_rfl) (fun w1 c1 => (op_lenN rfl (by kernel_rfl) hz_p0.2.2)) ?_
 refine lv 9 (by kernel_rfl) (fun w1 c1 => (op_gtr rfl rfl)) ?_
 refine ln ?_
 refine xn ?_
 refine cm_cond (by kernel_rfl) rfl (fun h5 => ?_) (fun h5 => ?_)
 ·skip
  refine cq ?_
  refine cr ?_
  refine lv 2 (by kernel_rfl) (fun w1 c1 => (oa (v := .int .i64 _) rfl)) ?_
  refine ln ?_
  refine xn ?_
  refine cm_ret ?_
  refine xm_thenR ?_
  exact xm_retT rfl (by kernel_rfl) (show _ = Value.int .i64 _ from rfl) fun w1 c1 => ⟨(), rfl, hsub [] (by kernel_rfl) rfl w1 c1⟩
 ·skip
  refine cm_skip ?_
  refine xn ?_
  refine cm_join (σ := Unit) (ξ := Unit) (fun s39 u40 => [(0, .slice A_p0 n_p0 c_p0)]) (fun s39 u40 => []) ?_ ?_
  ·skip
   refine cq ?_
   refine cr ?_
   refine lv 10 (by kernel_rfl) (fun w1 c1 => (om (v := .slice _ _ _) rfl)) ?_
   refine lv 11 (by kernel_rfl) (fun w1 c1 => (op_lenN rfl (by kernel_rfl) hz_p0.2.2)) ?_
   refine lv 12 (by kernel_rfl) (fun w1 c1 => (om (v := .int .i64 _) rfl)) ?_
   refine ln ?_
   refine xn ?_
   refine cm_block ?_
   refine cm_loop (σ := Int) (ξ := Unit) (fun s63 u64 => [(0, .slice A_p0 n_p0 c_p0), (10, .slice A_p0 n_p0 c_p0), (11, .int .i64 (List.length p0 : Int)), (12, .int .i64 s63)]) (fun s63 u64 => []) () ?_ ?_ ?_
   ·exact (sc (by kernel_rfl) rfl (sc (by kernel_rfl) rfl (sc (by kernel_rfl) rfl (sc (by kernel_rfl) rfl sub_nil))))
   ·exact hsub [] (by kernel_rfl) rfl
   intro s63 u64
   refine cq ?_
   refine cr ?_
   refine lv 13 (by kernel_rfl) (fun w1 c1 => (op_lss rfl rfl)) ?_
   refine ln ?_
   refine xn ?_
   refine cq ?_
   refine cm_cond (by kernel_rfl) rfl (fun h65 => ?_) (fun h65 => ?_)
   ·skip
    refine cm_skip ?_
    refine xn ?_
    refine cq ?_
    refine cm_block ?_
    refine cq ?_
    refine cr ?_
    refine lm_ck (fun h66 => ?_)
    refine lv 14 (by kernel_rfl) (fun w1 c1 => (op_indexA 2 rfl rfl (by kernel_rfl) ((hr_p0.old c1).addr h66.1 h66.2) hz_p0.2.2 h66.1 h66.2)) ?_
    refine lv 15 (by kernel_rfl) (fun w1 c1 => (op_loadR [.string ((ix p0 s63).ID), .int .i64 ((ix p0 s63).Persons)] rfl (by kernel_rfl) ((hr_p0.old c1).row h66.1 h66.2))) ?_
    refine lm_alloc 4 [.string (⟨#[]⟩ : ByteArray), .int .i64 0] (v := .agg #[.string (⟨#[]⟩ : ByteArray), .int .i64 0]) (by kernel_rfl) (by kernel_rfl) rfl ?_
    intro b67
    refine lm_storeA 0 [.string _, .int .i64 _] [_, _] (H' := [blkE _ _ [_, _]]) (by kernel_rfl) rfl rfl (by kernel_rfl) rfl rfl (by kernel_rfl) rfl rfl ?_
    refine ln ?_
    refine xn ?_
    refine cq ?_
    refine cq ?_
    refine cr ?_
    refine lv 16 (by kernel_rfl) (fun w1 c1 => (oF (m := 0) (k := 0) rfl (by kernel_rfl) rfl)) ?_
    refine lv 17 (by kernel_rfl) (fun w1 c1 => (ol rfl (by kernel_rfl) (c1.cell 0 (u := .string _) rfl rfl))) ?_
    refine lm_call 18 (V := (fun (r : Bool) (_u : Unit) => .bool r)) (HR := (fun (_r : Bool) (_u : Unit) => [])) (by kernel_rfl) (fun w1 => op_call (by kernel_rfl)) (fun r1 hr1 w1 c1 => m_ident_Valid_ok N w1 ((ix p0 s63).ID)  r1 hr1) ?_
    intro r68 u69
    refine lv 19 (by kernel_rfl) (fun w1 c1 => (op_not rfl)) ?_
    refine ln ?_
    refine xn ?_
    refine cm_condB (by kernel_rfl) rfl (fun h70 => ?_) (fun h70 => ?_)
    ·skip
     refine cq ?_
     refine cr ?_
     refine lv 2 (by kernel_rfl) (fun w1 c1 => (oa (v := .int .i64 _) rfl)) ?_
     refine ln ?_
     refine xn ?_
     refine cm_ret ?_
     refine xm_thenR ?_
     refine xm_inR ?_
     refine xm_thenR ?_
     refine xm_lret ?_
     refine xm_inR ?_
     refine xm_lret ?_
     exact xm_retT rfl (by kernel_rfl) (show _ = Value.int .i64 _ from rfl) fun w1 c1 => ⟨(), rfl, hsub [] (by kernel_rfl) rfl w1 c1⟩
    ·skip
     refine cm_skip ?_
     refine xn ?_
     refine cq ?_
     refine cm_cutE [(27, .bool ((decide ((ix p0 s63).Persons < 1)) || (decide (100 < (ix p0 s63).Persons))))] ?_ ?_
     ·skip
      refine wv 20 (by kernel_rfl) (fun w1 c1 => (oF (m := 1) (k := 1) rfl (by kernel_rfl) rfl)) ?_
      refine wv 21 (by kernel_rfl) (fun w1 c1 => (ol rfl (by kernel_rfl) (c1.cell 0 (u := .int .i64 _) rfl rfl))) ?_
      refine wq_dec 22 (by kernel_rfl) (fun w1 c1 => (op_lss rfl rfl)) (fun h71 => ?_) (fun h71 => ?_)
      ·skip
       refine wv 23 (by kernel_rfl) (fun w1 c1 => (om (v := .bool true) rfl)) ?_
       refine wk 24 (by kernel_rfl) ?_
       refine wk 25 (by kernel_rfl) ?_
       refine wk 26 (by kernel_rfl) ?_
       refine wv 27 (by kernel_rfl) (fun w1 c1 => (opt (v := .bool true) rfl rfl)) ?_
       exact leaf_q (sub_out 8 _ rfl (by kernel_rfl) ⟨(congrArg Value.bool (by rw [decide_eq_true h71] <;> rfl)), trivial⟩)
      ·skip
       refine wv 23 (by kernel_rfl) (fun w1 c1 => (om (v := .bool false) rfl)) ?_
       refine wv 24 (by kernel_rfl) (fun w1 c1 => (oF (m := 1) (k := 1) rfl (by kernel_rfl) rfl)) ?_
       refine wv 25 (by kernel_rfl) (fun w1 c1 => (ol rfl (by kernel_rfl) (c1.cell 0 (u := .int .i64 _) rfl rfl))) ?_
       refine wv 26 (by kernel_rfl) (fun w1 c1 => (op_gtr rfl rfl)) ?_
       refine wv 27 (by kernel_rfl) (fun w1 c1 => (opf (v := .bool _) rfl rfl)) ?_
       exact leaf_q (sub_out 8 _ rfl (by kernel_rfl) ⟨(congrArg Value.bool (by rw [decide_eq_false h71] <;> rfl)), trivial⟩)
     refine xn ?_
     refine cm_condB (by kernel_rfl) rfl (fun h72 => ?_) (fun h72 => ?_)
     ·skip
      refine cq ?_
      refine cr ?_
      refine lv 2 (by kernel_rfl) (fun w1 c1 => (oa (v := .int .i64 _) rfl)) ?_
      refine ln ?_
      refine xn ?_
      refine cm_ret ?_
      refine xm_inR ?_
      refine xm_thenR ?_
      refine xm_lret ?_
      refine xm_inR ?_
      refine xm_lret ?_
      exact xm_retT rfl (by kernel_rfl) (show _ = Value.int .i64 _ from rfl) fun w1 c1 => ⟨(), rfl, hsub [] (by kernel_rfl) rfl w1 c1⟩
     ·skip
      refine cm_skip ?_
      refine xm_inN ?_
      refine xn ?_
      refine cr ?_
      refine lm_ck (fun h73 => ?_)
      refine lv 28 (by kernel_rfl) (fun w1 c1 => (op_add rfl rfl h73)) ?_
      refine lv 12 (by kernel_rfl) (fun w1 c1 => (om (v := .int .i64 _) rfl)) ?_
      refine ln ?_
      exact xm_lnext () (sc (by kernel_rfl) rfl (sc (by kernel_rfl) rfl (sc (by kernel_rfl) rfl (sc (by kernel_rfl) rfl sub_nil)))) (hsub [] (by kernel_rfl) rfl)
   ·skip
    refine cm_exit ?_
    refine xm_thenE ?_
    refine xm_lexit ?_
    refine xm_here ?_
    exact xm_lnext () (sc (by kernel_rfl) rfl sub_nil) (hsub [] (by kernel_rfl) rfl)
  intro s39 u40
  refine cm_join (σ := Unit) (ξ := Unit) (fun s104 u105 => []) (fun s104 u105 => []) ?_ ?_
  ·skip
   refine cq ?_
   refine cr ?_
   refine lv 29 (by kernel_rfl) (fun w1 c1 => (om (v := .slice _ _ _) rfl)) ?_
   refine lv 30 (by kernel_rfl) (fun w1 c1 => (op_lenN rfl (by kernel_rfl) hz_p0.2.2)) ?_
   refine lv 31 (by kernel_rfl) (fun w1 c1 => (om (v := .int .i64 _) rfl)) ?_
   refine ln ?_
   refine xn ?_
   refine cm_block ?_
   refine cm_loop (σ := Int) (ξ := Unit) (fun s126 u127 => [(0, .slice A_p0 n_p0 c_p0), (29, .slice A_p0 n_p0 c_p0), (30, .int .i64 (List.length p0 : Int)), (31, .int .i64 s126)]) (fun s126 u127 => []) () ?_ ?_ ?_
   ·exact (sc (by kernel_rfl) rfl (sc (by kernel_rfl) rfl (sc (by kernel_rfl) rfl (sc (by kernel_rfl) rfl sub_nil))))
   ·exact hsub [] (by kernel_rfl) rfl
   intro s126 u127
   refine cq ?_
   refine cr ?_
   refine lv 32 (by kernel_rfl) (fun w1 c1 => (op_lss rfl rfl)) ?_
   refine ln ?_
   refine xn ?_
   refine cq ?_
   refine cm_cond (by kernel_rfl) rfl (fun h128 => ?_) (fun h128 => ?_)
   ·skip
    refine cm_skip ?_
    refine xn ?_
    refine cq ?_
    refine cm_block ?_
    refine cq ?_
    refine cr ?_
    refine lv 33 (by kernel_rfl) (fun w1 c1 => (om (v := .int .i64 _) rfl)) ?_
    refine lm_ck (fun h129 => ?_)
    refine lv 34 (by kernel_rfl) (fun w1 c1 => (op_indexA 2 rfl rfl (by kernel_rfl) ((hr_p0.old c1).addr h129.1 h129.2) hz_p0.2.2 h129.1 h129.2)) ?_
    refine lv 35 (by kernel_rfl) (fun w1 c1 => (op_loadR [.string ((ix p0 s126).ID), .int .i64 ((ix p0 s126).Persons)] rfl (by kernel_rfl) ((hr_p0.old c1).row h129.1 h129.2))) ?_
    refine lm_alloc 6 [.string (⟨#[]⟩ : ByteArray), .int .i64 0] (v := .agg #[.string (⟨#[]⟩ : ByteArray), .int .i64 0]) (by kernel_rfl) (by kernel_rfl) rfl ?_
    intro b130
    refine lv 5 (by kernel_rfl) (fun w1 c1 => (oa (v := .int .i64 _) rfl)) ?_
    refine lm_storeA 0 [.string _, .int .i64 _] [_, _] (H' := [blkE _ _ [_, _]]) (by kernel_rfl) rfl rfl (by kernel_rfl) rfl rfl (by kernel_rfl) rfl rfl ?_
    refine ln ?_
    refine xn ?_
    refine cq ?_
    refine cr ?_
    refine lv 36 (by kernel_rfl) (fun w1 c1 => (om (v := .slice _ _ _) rfl)) ?_
    refine lv 37 (by kernel_rfl) (fun w1 c1 => (om (v := .int .i64 _) rfl)) ?_
    refine lm_ck (fun h131 => ?_)
    refine lv 38 (by kernel_rfl) (fun w1 c1 => (op_sliceTo2 (l := p0) rfl rfl (by kernel_rfl) (by kernel_rfl) hz_p0 h131.1 h131.2)) ?_
    refine lv 39 (by kernel_rfl) (fun w1 c1 => (op_makeFuncC [.pointer (some ⟨_, _, _⟩)] rfl)) ?_
    refine lm_call 40 (V := (fun (r : Bool) (_u : Unit) => .bool r)) (HR := (fun (_r : Bool) (_u : Unit) => [])) (by kernel_rfl) (fun w1 => op_call (by kernel_rfl)) (fun r1 hr1 w1 c1 => m_slices_ContainsFunc_household_people_1_ok N w1 (List.take (Int.toNat s126) p0) (ix p0 s126) A_p0 (Int.toNat s126) c_p0 b130 ((hr_p0.old c1).take h131.1 h131.2) (hz_p0.take h131.1 h131.2) (c1.blk 0 rfl) r1 hr1) ?_
    intro r132 u133
    refine ln ?_
    refine xn ?_
    refine cm_condB (by kernel_rfl) rfl (fun h134 => ?_) (fun h134 => ?_)
    ·skip
     refine cq ?_
     refine cr ?_
     refine lv 2 (by kernel_rfl) (fun w1 c1 => (oa (v := .int .i64 _) rfl)) ?_
     refine ln ?_
     refine xn ?_
     refine cm_ret ?_
     refine xm_inR ?_
     refine xm_thenR ?_
     refine xm_lret ?_
     refine xm_inR ?_
     refine xm_lret ?_
     exact xm_retT rfl (by kernel_rfl) (show _ = Value.int .i64 _ from rfl) fun w1 c1 => ⟨(), rfl, hsub [] (by kernel_rfl) rfl w1 c1⟩
    ·skip
     refine cm_skip ?_
     refine xm_inN ?_
     refine xn ?_
     refine cr ?_
     refine lm_ck (fun h135 => ?_)
     refine lv 41 (by kernel_rfl) (fun w1 c1 => (op_add rfl rfl h135)) ?_
     refine lv 31 (by kernel_rfl) (fun w1 c1 => (om (v := .int .i64 _) rfl)) ?_
     refine ln ?_
     exact xm_lnext () (sc (by kernel_rfl) rfl (sc (by kernel_rfl) rfl (sc (by kernel_rfl) rfl (sc (by kernel_rfl) rfl sub_nil)))) (hsub [] (by kernel_rfl) rfl)
   ·skip
    refine cm_exit ?_
    refine xm_thenE ?_
    refine xm_lexit ?_
    refine xm_here ?_
    exact xm_lnext () sub_nil (hsub [] (by kernel_rfl) rfl)
  intro s104 u105
  refine cq ?_
  refine cr ?_
  refine lv 2 (by kernel_rfl) (fun w1 c1 => (oa (v := .int .i64 _) rfl)) ?_
  refine ln ?_
  refine xn ?_
  refine cm_ret ?_
  exact xm_retT rfl (by kernel_rfl) (show _ = Value.int .i64 _ from rfl) fun w1 c1 => ⟨(), rfl, hsub [] (by kernel_rfl) rfl w1 c1⟩
/-- household.valid -/
def m_household_valid (_N : Nat) (p0 : ApiWindow) : Option (Bool) :=
 some ((((decide (0 ≤ p0.From)) && (decide (p0.From ≤ p0.To))) && (decide (p0.To ≤ 3155760000))))
set_option maxRecDepth 20000 in
theorem m_household_valid_ok (N : Nat) (w0 : World) (p0 : ApiWindow)   (r : Bool) (hr : m_household_valid N p0 = some r) :
  Calls Tryz.prog 47 [.agg #[.int .i64 p0.From, .int .i64 p0.To]].toArray w0 fun x w1 => ∃ u, x = .returned ((fun (r : Bool) (_u : Unit) => .bool r) r u) ∧ Hs w0 ((fun (_r : Bool) (_u : Unit) => []) r u) w1 := by
 refine calls_cm (n := 18) (R := fun r x w1 => ∃ u, x = .returned ((fun (r : Bool) (_u : Unit) => .bool r) r u) ∧ Hs w0 ((fun (_r : Bool) (_u : Unit) => []) r u) w1) Tryz.func47 rfl rfl (Nat.le_of_ble_eq_true rfl) ?_ r hr
 unfold m_household_valid
 refine cq ?_
 refine cr ?_
 refine lm_box 1 [.int .i64 _, .int .i64 _] (by kernel_rfl) rfl ?_
 intro b5
 refine lv 2 (by kernel_rfl) (fun w1 c1 => (oa (v := .bool false) rfl)) ?_
 refine ln ?_
 refine xn ?_
 refine cq ?_
 refine cm_cutE [(2, .bool (((decide (0 ≤ p0.From)) && (decide (p0.From ≤ p0.To))) && (decide (p0.To ≤ 3155760000))))] ?_ ?_
 ·skip
  refine wv 3 (by kernel_rfl) (fun w1 c1 => (oF (m := 0) (k := 0) rfl (by kernel_rfl) rfl)) ?_
  refine wv 4 (by kernel_rfl) (fun w1 c1 => (ol rfl (by kernel_rfl) (c1.cell 0 (u := .int .i64 _) rfl rfl))) ?_
  refine wq_dec 5 (by kernel_rfl) (fun w1 c1 => (op_leq rfl rfl)) (fun h6 => ?_) (fun h6 => ?_)
  ·skip
   refine wv 6 (by kernel_rfl) (fun w1 c1 => (om (v := .bool true) rfl)) ?_
   refine wv 7 (by kernel_rfl) (fun w1 c1 => (oF (m := 0) (k := 0) rfl (by kernel_rfl) rfl)) ?_
   refine wv 8 (by kernel_rfl) (fun w1 c1 => (ol rfl (by kernel_rfl) (c1.cell 0 (u := .int .i64 _) rfl rfl))) ?_
   refine wv 9 (by kernel_rfl) (fun w1 c1 => (oF (m := 1) (k := 1) rfl (by kernel_rfl) rfl)) ?_
   refine wv 10 (by kernel_rfl) (fun w1 c1 => (ol rfl (by kernel_rfl) (c1.cell 0 (u := .int .i64 _) rfl rfl))) ?_
   refine wq_dec 11 (by kernel_rfl) (fun w1 c1 => (op_leq rfl rfl)) (fun h7 => ?_) (fun h7 => ?_)
   ·skip
    refine wv 12 (by kernel_rfl) (fun w1 c1 => (opt (v := .bool true) rfl rfl)) ?_
    refine wv 13 (by kernel_rfl) (fun w1 c1 => (om (v := .bool true) rfl)) ?_
    refine wv 14 (by kernel_rfl) (fun w1 c1 => (oF (m := 1) (k := 1) rfl (by kernel_rfl) rfl)) ?_
    refine wv 15 (by kernel_rfl) (fun w1 c1 => (ol rfl (by kernel_rfl) (c1.cell 0 (u := .int .i64 _) rfl rfl))) ?_
    refine wv 16 (by kernel_rfl) (fun w1 c1 => (op_leq rfl rfl)) ?_
    refine wv 17 (by kernel_rfl) (fun w1 c1 => (opt (v := .bool _) rfl rfl)) ?_
    refine wv 2 (by kernel_rfl) (fun w1 c1 => (oa (v := .bool _) rfl)) ?_
    exact leaf_q (sub_out 16 _ rfl (by kernel_rfl) ⟨(congrArg Value.bool (by rw [decide_eq_true h6, decide_eq_true h7] <;> rfl)), trivial⟩)
   ·skip
    refine wv 12 (by kernel_rfl) (fun w1 c1 => (opt (v := .bool false) rfl rfl)) ?_
    refine wv 13 (by kernel_rfl) (fun w1 c1 => (om (v := .bool false) rfl)) ?_
    refine wk 14 (by kernel_rfl) ?_
    refine wk 15 (by kernel_rfl) ?_
    refine wk 16 (by kernel_rfl) ?_
    refine wv 17 (by kernel_rfl) (fun w1 c1 => (opf (v := .bool false) rfl rfl)) ?_
    refine wv 2 (by kernel_rfl) (fun w1 c1 => (oa (v := .bool false) rfl)) ?_
    exact leaf_q (sub_out 16 _ rfl (by kernel_rfl) ⟨(congrArg Value.bool (by rw [decide_eq_true h6, decide_eq_false h7] <;> rfl)), trivial⟩)
  ·skip
   refine wv 6 (by kernel_rfl) (fun w1 c1 => (om (v := .bool false) rfl)) ?_
   refine wk 7 (by kernel_rfl) ?_
   refine wk 8 (by kernel_rfl) ?_
   refine wk 9 (by kernel_rfl) ?_
   refine wk 10 (by kernel_rfl) ?_
   refine wk 11 (by kernel_rfl) ?_
   refine wv 12 (by kernel_rfl) (fun w1 c1 => (opf (v := .bool false) rfl rfl)) ?_
   refine wv 13 (by kernel_rfl) (fun w1 c1 => (om (v := .bool false) rfl)) ?_
   refine wk 14 (by kernel_rfl) ?_
   refine wk 15 (by kernel_rfl) ?_
   refine wk 16 (by kernel_rfl) ?_
   refine wv 17 (by kernel_rfl) (fun w1 c1 => (opf (v := .bool false) rfl rfl)) ?_
   refine wv 2 (by kernel_rfl) (fun w1 c1 => (oa (v := .bool false) rfl)) ?_
   exact leaf_q (sub_out 16 _ rfl (by kernel_rfl) ⟨(congrArg Value.bool (by rw [decide_eq_false h6] <;> rfl)), trivial⟩)
 refine xn ?_
 refine cm_ret ?_
 exact xm_retT rfl (by kernel_rfl) (show _ = Value.bool _ from rfl) fun w1 c1 => ⟨(), rfl, hsub [] (by kernel_rfl) rfl w1 c1⟩
/-- household.common -/
def m_household_common (_N : Nat) (p0 : ApiWindow) (p1 : ApiWindow) : Option (ApiWindow) :=
 some ((ApiWindow.mk (max p0.From p1.From) (min p0.To p1.To)))
set_option maxRecDepth 20000 in
theorem m_household_common_ok (N : Nat) (w0 : World) (p0 : ApiWindow) (p1 : ApiWindow)   (r : ApiWindow) (hr : m_household_common N p0 p1 = some r) :
  Calls Tryz.prog 50 [.agg #[.int .i64 p0.From, .int .i64 p0.To], .agg #[.int .i64 p1.From, .int .i64 p1.To]].toArray w0 fun x w1 => ∃ u, x = .returned ((fun (r : ApiWindow) (_u : Unit) => .agg #[.int .i64 r.From, .int .i64 r.To]) r u) ∧ Hs w0 ((fun (_r : ApiWindow) (_u : Unit) => []) r u) w1 := by
 refine calls_cm (n := 16) (R := fun r x w1 => ∃ u, x = .returned ((fun (r : ApiWindow) (_u : Unit) => .agg #[.int .i64 r.From, .int .i64 r.To]) r u) ∧ Hs w0 ((fun (_r : ApiWindow) (_u : Unit) => []) r u) w1) Tryz.func50 rfl rfl (Nat.le_of_ble_eq_true rfl) ?_ r hr
 unfold m_household_common
 refine cq ?_
 refine cr ?_
 refine lm_box 2 [.int .i64 _, .int .i64 _] (by kernel_rfl) rfl ?_
 intro b5
 refine lm_box 3 [.int .i64 _, .int .i64 _] (by kernel_rfl) rfl ?_
 intro b6
 refine lm_alloc 4 [.int .i64 0, .int .i64 0] (v := .agg #[.int .i64 0, .int .i64 0]) (by kernel_rfl) (by kernel_rfl) rfl ?_
 intro b7
 refine ln ?_
 refine xn ?_
 refine cq ?_
 refine cr ?_
 refine lv 5 (by kernel_rfl) (fun w1 c1 => (oF (m := 0) (k := 0) rfl (by kernel_rfl) rfl)) ?_
 refine lv 6 (by kernel_rfl) (fun w1 c1 => (ol rfl (by kernel_rfl) (c1.cell 2 (u := .int .i64 _) rfl rfl))) ?_
 refine lv 7 (by kernel_rfl) (fun w1 c1 => (oF (m := 0) (k := 0) rfl (by kernel_rfl) rfl)) ?_
 refine lv 8 (by kernel_rfl) (fun w1 c1 => (ol rfl (by kernel_rfl) (c1.cell 1 (u := .int .i64 _) rfl rfl))) ?_
 refine lv 9 (by kernel_rfl) (fun w1 c1 => (op_max rfl rfl)) ?_
 refine lv 10 (by kernel_rfl) (fun w1 c1 => (oF (m := 1) (k := 1) rfl (by kernel_rfl) rfl)) ?_
 refine lv 11 (by kernel_rfl) (fun w1 c1 => (ol rfl (by kernel_rfl) (c1.cell 2 (u := .int .i64 _) rfl rfl))) ?_
 refine lv 12 (by kernel_rfl) (fun w1 c1 => (oF (m := 1) (k := 1) rfl (by kernel_rfl) rfl)) ?_
 refine lv 13 (by kernel_rfl) (fun w1 c1 => (ol rfl (by kernel_rfl) (c1.cell 1 (u := .int .i64 _) rfl rfl))) ?_
 refine lv 14 (by kernel_rfl) (fun w1 c1 => (op_min rfl rfl)) ?_
 refine lv 15 (by kernel_rfl) (fun w1 c1 => (op_build (z := [.int .i64 0, .int .i64 0]) (tab := [(0, 1), (1, 1)]) (cs := [.int .i64 _, .int .i64 _]) [(0, [.int .i64 _]), (1, [.int .i64 _])] (by kernel_rfl) (by kernel_rfl) (fillOk_cons rfl rfl rfl (fillOk_cons rfl rfl rfl fillOk_nil)) rfl)) ?_
 refine lm_storeA 0 [.int .i64 _, .int .i64 _] [_, _] (H' := [blkE _ _ [_, _], _, _]) (by kernel_rfl) rfl rfl (by kernel_rfl) rfl rfl (by kernel_rfl) rfl rfl ?_
 refine ln ?_
 refine xn ?_
 refine cm_ret ?_
 exact xm_retC rfl (by kernel_rfl) (show _ = Value.pointer (some ⟨_, 0, none⟩) from rfl) (by kernel_rfl) (fun w1 c1 => c1.cells 0 (ds := [.int .i64 _, .int .i64 _]) rfl rfl) fun w1 c1 => ⟨(), rfl, hsub [] (by kernel_rfl) rfl w1 c1⟩
/-- household.empty -/
def m_household_empty (_N : Nat) (p0 : ApiWindow) : Option (Bool) :=
 some ((decide (p0.To ≤ p0.From)))
set_option maxRecDepth 20000 in
theorem m_household_empty_ok (N : Nat) (w0 : World) (p0 : ApiWindow)   (r : Bool) (hr : m_household_empty N p0 = some r) :
  Calls Tryz.prog 49 [.agg #[.int .i64 p0.From, .int .i64 p0.To]].toArray w0 fun x w1 => ∃ u, x = .returned ((fun (r : Bool) (_u : Unit) => .bool r) r u) ∧ Hs w0 ((fun (_r : Bool) (_u : Unit) => []) r u) w1 := by
 refine calls_cm (n := 8) (R := fun r x w1 => ∃ u, x = .returned ((fun (r : Bool) (_u : Unit) => .bool r) r u) ∧ Hs w0 ((fun (_r : Bool) (_u : Unit) => []) r u) w1) Tryz.func49 rfl rfl (Nat.le_of_ble_eq_true rfl) ?_ r hr
 unfold m_household_empty
 refine cq ?_
 refine cr ?_
 refine lm_box 1 [.int .i64 _, .int .i64 _] (by kernel_rfl) rfl ?_
 intro b5
 refine lv 2 (by kernel_rfl) (fun w1 c1 => (oa (v := .bool false) rfl)) ?_
 refine ln ?_
 refine xn ?_
 refine cq ?_
 refine cr ?_
 refine lv 3 (by kernel_rfl) (fun w1 c1 => (oF (m := 0) (k := 0) rfl (by kernel_rfl) rfl)) ?_
 refine lv 4 (by kernel_rfl) (fun w1 c1 => (ol rfl (by kernel_rfl) (c1.cell 0 (u := .int .i64 _) rfl rfl))) ?_
 refine lv 5 (by kernel_rfl) (fun w1 c1 => (oF (m := 1) (k := 1) rfl (by kernel_rfl) rfl)) ?_
 refine lv 6 (by kernel_rfl) (fun w1 c1 => (ol rfl (by kernel_rfl) (c1.cell 0 (u := .int .i64 _) rfl rfl))) ?_
 refine lv 7 (by kernel_rfl) (fun w1 c1 => (op_geq rfl rfl)) ?_
 refine lv 2 (by kernel_rfl) (fun w1 c1 => (oa (v := .bool _) rfl)) ?_
 refine ln ?_
 refine xn ?_
 refine cm_ret ?_
 exact xm_retT rfl (by kernel_rfl) (show _ = Value.bool _ from rfl) fun w1 c1 => ⟨(), rfl, hsub [] (by kernel_rfl) rfl w1 c1⟩
/-- household.Check$1 -/
def m_household_Check_1 (N : Nat) (p0 : ApiAssign) (q0 : ApiAssign) : Option (Bool) :=
 callIf (decide (p0.Container = q0.Container) = true) (m_household_common N q0.When p0.When) fun r6 => callIf (decide (p0.Container = q0.Container) = true) (m_household_empty N r6) fun r8 => some (((decide (p0.Container = q0.Container)) && (!r8)))
set_option maxRecDepth 20000 in
theorem m_household_Check_1_ok (N : Nat) (w0 : World) (p0 : ApiAssign) (q0 : ApiAssign) (b_q0 : Nat) (hb_q0 : Blk w0 b_q0 81 [.int .i64 q0.Container, .int .i64 q0.Household, .int .i64 q0.When.From, .int .i64 q0.When.To]) (r : Bool) (hr : m_household_Check_1 N p0 q0 = some r) :
  Calls Tryz.prog 48 [.agg #[.int .i64 p0.Container, .int .i64 p0.Household, .int .i64 p0.When.From, .int .i64 p0.When.To], .pointer (some ⟨b_q0, 0, none⟩)].toArray w0 fun x w1 => ∃ u, x = .returned ((fun (r : Bool) (_u : Unit) => .bool r) r u) ∧ Hs w0 ((fun (_r : Bool) (_u : Unit) => []) r u) w1 := by
 refine calls_cm (n := 18) (R := fun r x w1 => ∃ u, x = .returned ((fun (r : Bool) (_u : Unit) => .bool r) r u) ∧ Hs w0 ((fun (_r : Bool) (_u : Unit) => []) r u) w1) Tryz.func48 rfl rfl (Nat.le_of_ble_eq_true rfl) ?_ r hr
 unfold m_household_Check_1
 refine cq ?_
 refine cr ?_
 refine lm_box 2 [.int .i64 _, .int .i64 _, .int .i64 _, .int .i64 _] (by kernel_rfl) rfl ?_
 intro b5
 refine lv 3 (by kernel_rfl) (fun w1 c1 => (oa (v := .bool false) rfl)) ?_
 refine ln ?_
 refine xn ?_
 refine cq ?_
 refine cm_callIf fun r6 h7 => ?_
 refine cm_callIf fun r8 h9 => ?_
 refine cm_cutE [(3, .bool ((decide (p0.Container = q0.Container)) && (!r8)))] ?_ ?_
 ·skip
  refine wv 4 (by kernel_rfl) (fun w1 c1 => (oF (m := 0) (k := 0) rfl (by kernel_rfl) rfl)) ?_
  refine wv 5 (by kernel_rfl) (fun w1 c1 => (ol rfl (by kernel_rfl) (c1.cell 0 (u := .int .i64 _) rfl rfl))) ?_
  refine wv 6 (by kernel_rfl) (fun w1 c1 => (oF (m := 0) (k := 0) rfl (by kernel_rfl) rfl)) ?_
  refine wv 7 (by kernel_rfl) (fun w1 c1 => (ol rfl (by kernel_rfl) (c1.ocell (hb_q0.at_ 0 (u := .int .i64 _) rfl)))) ?_
  refine wq_dec 8 (by kernel_rfl) (fun w1 c1 => (op_eql rfl rfl)) (fun h10 => ?_) (fun h10 => ?_)
  ·skip
   refine wv 9 (by kernel_rfl) (fun w1 c1 => (om (v := .bool true) rfl)) ?_
   refine wv 10 (by kernel_rfl) (fun w1 c1 => (oF (m := 2) (k := 2) rfl (by kernel_rfl) rfl)) ?_
   refine wv 11 (by kernel_rfl) (fun w1 c1 => (op_loadR [.int .i64 _, .int .i64 _] rfl (by kernel_rfl) (c1.ocells hb_q0 rfl))) ?_
   refine wv 12 (by kernel_rfl) (fun w1 c1 => (oF (m := 2) (k := 2) rfl (by kernel_rfl) rfl)) ?_
   refine wv 13 (by kernel_rfl) (fun w1 c1 => (op_loadR [.int .i64 _, .int .i64 _] rfl (by kernel_rfl) (c1.cells 0 rfl rfl))) ?_
   refine wq_call 14 (by kernel_rfl) (fun w1 c1 => op_call (by kernel_rfl)) (fun w1 c1 => (m_household_common_ok N w1 q0.When p0.When  r6 (h7 (by rw [decide_eq_true h10] <;> rfl))).mono (fun _ _ ⟨_, hx, hu⟩ => ⟨hx, c1.call hu⟩)) ?_
   refine wq_call 15 (by kernel_rfl) (fun w1 c1 => op_call (by kernel_rfl)) (fun w1 c1 => (m_household_empty_ok N w1 r6  r8 (h9 (by rw [decide_eq_true h10] <;> rfl))).mono (fun _ _ ⟨_, hx, hu⟩ => ⟨hx, c1.call hu⟩)) ?_
   refine wv 16 (by kernel_rfl) (fun w1 c1 => (op_not rfl)) ?_
   refine wv 17 (by kernel_rfl) (fun w1 c1 => (opt (v := .bool _) rfl rfl)) ?_
   refine wv 3 (by kernel_rfl) (fun w1 c1 => (oa (v := .bool _) rfl)) ?_
   exact leaf_q (sub_out 15 _ rfl (by kernel_rfl) ⟨(congrArg Value.bool (by rw [decide_eq_true h10] <;> rfl)), trivial⟩)
  ·skip
   refine wv 9 (by kernel_rfl) (fun w1 c1 => (om (v := .bool false) rfl)) ?_
   refine wk 10 (by kernel_rfl) ?_
   refine wk 11 (by kernel_rfl) ?_
   refine wk 12 (by kernel_rfl) ?_
   refine wk 13 (by kernel_rfl) ?_
   refine wk 14 (by kernel_rfl) ?_
   refine wk 15 (by kernel_rfl) ?_
   refine wk 16 (by kernel_rfl) ?_
   refine wv 17 (by kernel_rfl) (fun w1 c1 => (opf (v := .bool false) rfl rfl)) ?_
   refine wv 3 (by kernel_rfl) (fun w1 c1 => (oa (v := .bool false) rfl)) ?_
   exact leaf_q (sub_out 15 _ rfl (by kernel_rfl) ⟨(congrArg Value.bool (by rw [decide_eq_false h10] <;> rfl)), trivial⟩)
 refine xn ?_
 refine cm_ret ?_
 exact xm_retT rfl (by kernel_rfl) (show _ = Value.bool _ from rfl) fun w1 c1 => ⟨(), rfl, hsub [] (by kernel_rfl) rfl w1 c1⟩
/-- slices.IndexFunc -/
def m_slices_IndexFunc_household_Check_1 (N : Nat) (p0 : (List ApiAssign)) (p1c0 : ApiAssign) : Option (Int) :=
 (andThen
  (loopM (fun (s47 : Int) =>
   (if s47 < (List.length p0 : Int) then
    ck ((0 : Int) ≤ s47 ∧ s47 < (List.length p0 : Int)) (
     Option.bind (m_household_Check_1 N (ix p0 s47) p1c0) fun r51 => (if r51 = true then
      some (.done (.done (s47)))
     else
      ck (I64 (s47 + (1 : Int))) (
       some (.next (s47 + (1 : Int))))))
   else
    some (.done (.next ())))) N (0 : Int))
 fun (_s29 : Unit) =>
  some ((-1 : Int)))
set_option maxRecDepth 20000 in
theorem m_slices_IndexFunc_household_Check_1_ok (N : Nat) (w0 : World) (p0 : (List ApiAssign)) (p1c0 : ApiAssign) (A_p0 : Option Addr) (n_p0 c_p0 : Nat) (b_p1c0 : Nat) (hr_p0 : RdE w0 4 encApiAssign A_p0 p0) (hz_p0 : SW A_p0 n_p0 c_p0 (List.length p0)) (hb_p1c0 : Blk w0 b_p1c0 81 [.int .i64 p1c0.Container, .int .i64 p1c0.Household, .int .i64 p1c0.When.From, .int .i64 p1c0.When.To]) (r : Int) (hr : m_slices_IndexFunc_household_Check_1 N p0 p1c0 = some r) :
  Calls Tryz.prog 66 [.slice A_p0 n_p0 c_p0, .func (.func 48) #[] #[.pointer (some ⟨b_p1c0, 0, none⟩)]].toArray w0 fun x w1 => ∃ u, x = .returned ((fun (r : Int) (_u : Unit) => .int .i64 r) r u) ∧ Hs w0 ((fun (_r : Int) (_u : Unit) => []) r u) w1 := by
 refine calls_cm (n := 19) (R := fun r x w1 => ∃ u, x = .returned ((fun (r : Int) (_u : Unit) => .int .i64 r) r u) ∧ Hs w0 ((fun (_r : Int) (_u : Unit) => []) r u) w1) Tryz.func66 rfl rfl (Nat.le_of_ble_eq_true rfl) ?_ r hr
 unfold m_slices_IndexFunc_household_Check_1
 refine cq ?_
 refine cr ?_
 refine lv 4 (by kernel_rfl) (fun w1 c1 => (oa (v := .int .i64 _) rfl)) ?_
 refine ln ?_
 refine xn ?_
 refine cm_join (σ := Unit) (ξ := Unit) (fun s29 u30 => []) (fun s29 u30 => []) ?_ ?_
 ·skip
  refine cq ?_
  refine cr ?_
  refine lv 6 (by kernel_rfl) (fun w1 c1 => (om (v := .slice _ _ _) rfl)) ?_
  refine lv 7 (by kernel_rfl) (fun w1 c1 => (op_lenN rfl (by kernel_rfl) hz_p0.2.2)) ?_
  refine lv 8 (by kernel_rfl) (fun w1 c1 => (om (v := .int .i64 _) rfl)) ?_
  refine ln ?_
  refine xn ?_
  refine cm_block ?_
  refine cm_loop (σ := Int) (ξ := Unit) (fun s47 u48 => [(0, .slice A_p0 n_p0 c_p0), (1, .func (.func 48) #[] #[.pointer (some ⟨b_p1c0, 0, none⟩)]), (7, .int .i64 (List.length p0 : Int)), (8, .int .i64 s47)]) (fun s47 u48 => []) () ?_ ?_ ?_
  ·exact (sc (by kernel_rfl) rfl (sc (by kernel_rfl) rfl (sc (by kernel_rfl) rfl (sc (by kernel_rfl) rfl sub_nil))))
  ·exact hsub [] (by kernel_rfl) rfl
  intro s47 u48
  refine cq ?_
  refine cr ?_
  refine lv 9 (by kernel_rfl) (fun w1 c1 => (op_lss rfl rfl)) ?_
  refine ln ?_
  refine xn ?_
  refine cq ?_
  refine cm_cond (by kernel_rfl) rfl (fun h49 => ?_) (fun h49 => ?_)
  ·skip
   refine cm_skip ?_
   refine xn ?_
   refine cq ?_
   refine cm_block ?_
   refine cq ?_
   refine cr ?_
   refine lv 10 (by kernel_rfl) (fun w1 c1 => (om (v := .int .i64 _) rfl)) ?_
   refine lv 5 (by kernel_rfl) (fun w1 c1 => (oa (v := .int .i64 _) rfl)) ?_
   refine ln ?_
   refine xn ?_
   refine cq ?_
   refine cr ?_
   refine lv 11 (by kernel_rfl) (fun w1 c1 => (om (v := .func _ _ _) rfl)) ?_
   refine lv 12 (by kernel_rfl) (fun w1 c1 => (om (v := .slice _ _ _) rfl)) ?_
   refine lv 13 (by kernel_rfl) (fun w1 c1 => (om (v := .int .i64 _) rfl)) ?_
   refine lm_ck (fun h50 => ?_)
   refine lv 14 (by kernel_rfl) (fun w1 c1 => (op_indexA 4 rfl rfl (by kernel_rfl) ((hr_p0.old c1).addr h50.1 h50.2) hz_p0.2.2 h50.1 h50.2)) ?_
   refine lv 15 (by kernel_rfl) (fun w1 c1 => (op_loadR [.int .i64 ((ix p0 s47).Container), .int .i64 ((ix p0 s47).Household), .int .i64 ((ix p0 s47).When.From), .int .i64 ((ix p0 s47).When.To)] rfl (by kernel_rfl) ((hr_p0.old c1).row h50.1 h50.2))) ?_
   refine lm_call 16 (V := (fun (r : Bool) (_u : Unit) => .bool r)) (HR := (fun (_r : Bool) (_u : Unit) => [])) (by kernel_rfl) (fun w1 => op_callv rfl (by kernel_rfl)) (fun r1 hr1 w1 c1 => m_household_Check_1_ok N w1 (ix p0 s47) p1c0 b_p1c0 (c1.oblk hb_p1c0) r1 hr1) ?_
   intro r51 u52
   refine ln ?_
   refine xn ?_
   refine cm_condB (by kernel_rfl) rfl (fun h53 => ?_) (fun h53 => ?_)
   ·skip
    refine cq ?_
    refine cr ?_
    refine lv 17 (by kernel_rfl) (fun w1 c1 => (om (v := .int .i64 _) rfl)) ?_
    refine lv 4 (by kernel_rfl) (fun w1 c1 => (oa (v := .int .i64 _) rfl)) ?_
    refine ln ?_
    refine xn ?_
    refine cm_ret ?_
    refine xm_inR ?_
    refine xm_thenR ?_
    refine xm_lret ?_
    refine xm_inR ?_
    refine xm_lret ?_
    exact xm_retT rfl (by kernel_rfl) (show _ = Value.int .i64 _ from rfl) fun w1 c1 => ⟨(), rfl, hsub [] (by kernel_rfl) rfl w1 c1⟩
   ·skip
    refine cm_skip ?_
    refine xm_inN ?_
    refine xn ?_
    refine cr ?_
    refine lm_ck (fun h54 => ?_)
    refine lv 18 (by kernel_rfl) (fun w1 c1 => (op_add rfl rfl h54)) ?_
    refine lv 8 (by kernel_rfl) (fun w1 c1 => (om (v := .int .i64 _) rfl)) ?_
    refine ln ?_
    exact xm_lnext () (sc (by kernel_rfl) rfl (sc (by kernel_rfl) rfl (sc (by kernel_rfl) rfl (sc (by kernel_rfl) rfl sub_nil)))) (hsub [] (by kernel_rfl) rfl)
  ·skip
   refine cm_exit ?_
   refine xm_thenE ?_
   refine xm_lexit ?_
   refine xm_here ?_
   exact xm_lnext () sub_nil (hsub [] (by kernel_rfl) rfl)
 intro s29 u30
 refine cq ?_
 refine cr ?_
 refine lv 4 (by kernel_rfl) (fun w1 c1 => (oa (v := .int .i64 _) rfl)) ?_
 refine ln ?_
 refine xn ?_
 refine cm_ret ?_
 exact xm_retT rfl (by kernel_rfl) (show _ = Value.int .i64 _ from rfl) fun w1 c1 => ⟨(), rfl, hsub [] (by kernel_rfl) rfl w1 c1⟩
/-- slices.ContainsFunc -/
def m_slices_ContainsFunc_household_Check_1 (N : Nat) (p0 : (List ApiAssign)) (p1c0 : ApiAssign) : Option (Bool) :=
 Option.bind (m_slices_IndexFunc_household_Check_1 N p0 p1c0) fun r5 => some ((decide (0 ≤ r5)))
set_option maxRecDepth 20000 in
theorem m_slices_ContainsFunc_household_Check_1_ok (N : Nat) (w0 : World) (p0 : (List ApiAssign)) (p1c0 : ApiAssign) (A_p0 : Option Addr) (n_p0 c_p0 : Nat) (b_p1c0 : Nat) (hr_p0 : RdE w0 4 encApiAssign A_p0 p0) (hz_p0 : SW A_p0 n_p0 c_p0 (List.length p0)) (hb_p1c0 : Blk w0 b_p1c0 81 [.int .i64 p1c0.Container, .int .i64 p1c0.Household, .int .i64 p1c0.When.From, .int .i64 p1c0.When.To]) (r : Bool) (hr : m_slices_ContainsFunc_household_Check_1 N p0 p1c0 = some r) :
  Calls Tryz.prog 51 [.slice A_p0 n_p0 c_p0, .func (.func 48) #[] #[.pointer (some ⟨b_p1c0, 0, none⟩)]].toArray w0 fun x w1 => ∃ u, x = .returned ((fun (r : Bool) (_u : Unit) => .bool r) r u) ∧ Hs w0 ((fun (_r : Bool) (_u : Unit) => []) r u) w1 := by
 refine calls_cm (n := 9) (R := fun r x w1 => ∃ u, x = .returned ((fun (r : Bool) (_u : Unit) => .bool r) r u) ∧ Hs w0 ((fun (_r : Bool) (_u : Unit) => []) r u) w1) Tryz.func51 rfl rfl (Nat.le_of_ble_eq_true rfl) ?_ r hr
 unfold m_slices_ContainsFunc_household_Check_1
 refine cq ?_
 refine cr ?_
 refine lv 4 (by kernel_rfl) (fun w1 c1 => (oa (v := .bool false) rfl)) ?_
 refine ln ?_
 refine xn ?_
 refine cq ?_
 refine cr ?_
 refine lv 5 (by kernel_rfl) (fun w1 c1 => (om (v := .slice _ _ _) rfl)) ?_
 refine lv 6 (by kernel_rfl) (fun w1 c1 => (om (v := .func _ _ _) rfl)) ?_
 refine lm_call 7 (V := (fun (r : Int) (_u : Unit) => .int .i64 r)) (HR := (fun (_r : Int) (_u : Unit) => [])) (by kernel_rfl) (fun w1 => op_call (by kernel_rfl)) (fun r1 hr1 w1 c1 => m_slices_IndexFunc_household_Check_1_ok N w1 p0 p1c0 A_p0 n_p0 c_p0 b_p1c0 (hr_p0.old c1) hz_p0 (c1.oblk hb_p1c0) r1 hr1) ?_
 intro r5 u6
 refine lv 8 (by kernel_rfl) (fun w1 c1 => (op_geq rfl rfl)) ?_
 refine lv 4 (by kernel_rfl) (fun w1 c1 => (oa (v := .bool _) rfl)) ?_
 refine ln ?_
 refine xn ?_
 refine cm_ret ?_
 exact xm_retT rfl (by kernel_rfl) (show _ = Value.bool _ from rfl) fun w1 c1 => ⟨(), rfl, hsub [] (by kernel_rfl) rfl w1 c1⟩
/-- household.Check -/
def m_household_Check (N : Nat) (p0 : (List ApiHousehold)) (p1 : Int) (p2 : (List ApiAssign)) : Option (Int) :=
 (if ((decide (p1 < 0)) || (decide (256 < p1))) = true then
  some ((1 : Int))
 else
  Option.bind (m_household_people N p0) fun r7 => (if r7 ≠ 0 then
   some (r7)
  else
   (if 512 < (List.length p2 : Int) then
    some ((8 : Int))
   else
    (andThen
     (loopM (fun (s78 : Int) =>
      (if s78 < (List.length p2 : Int) then
       ck ((0 : Int) ≤ s78 ∧ s78 < (List.length p2 : Int)) (
        (if ((((decide ((ix p2 s78).Container < 0)) || (decide (p1 ≤ (ix p2 s78).Container))) || (decide ((ix p2 s78).Household < 0))) || (decide ((List.length p0 : Int) ≤ (ix p2 s78).Household))) = true then
         some (.done (.done ((7 : Int))))
        else
         Option.bind (m_household_valid N ((ix p2 s78).When)) fun r87 => (if (!r87) = true then
          some (.done (.done ((1 : Int))))
         else
          ck (I64 (s78 + (1 : Int))) (
           some (.next (s78 + (1 : Int)))))))
      else
       some (.done (.next ())))) N (0 : Int))
    fun (_s50 : Unit) =>
     (andThen
      (loopM (fun (s143 : Int) =>
       (if s143 < (List.length p2 : Int) then
        ck ((0 : Int) ≤ s143 ∧ s143 < (List.length p2 : Int)) (
         ck ((0 : Int) ≤ s143 ∧ s143 ≤ (List.length p2 : Int)) (
          Option.bind (m_slices_ContainsFunc_household_Check_1 N (List.take (Int.toNat s143) p2) (ix p2 s143)) fun r149 => (if r149 = true then
           some (.done (.done ((12 : Int))))
          else
           ck (I64 (s143 + (1 : Int))) (
            some (.next (s143 + (1 : Int)))))))
       else
        some (.done (.next ())))) N (0 : Int))
     fun (_s121 : Unit) =>
      some ((0 : Int)))))))
set_option maxHeartbeats 2000000 in
set_option maxRecDepth 20000 in
theorem m_household_Check_ok (N : Nat) (w0 : World) (p0 : (List ApiHousehold)) (p1 : Int) (p2 : (List ApiAssign)) (A_p0 : Option Addr) (n_p0 c_p0 : Nat) (A_p2 : Option Addr) (n_p2 c_p2 : Nat) (hr_p0 : RdE w0 2 encApiHousehold A_p0 p0) (hz_p0 : SW A_p0 n_p0 c_p0 (List.length p0)) (hr_p2 : RdE w0 4 encApiAssign A_p2 p2) (hz_p2 : SW A_p2 n_p2 c_p2 (List.length p2)) (r : Int) (hr : m_household_Check N p0 p1 p2 = some r) :
  Calls Tryz.prog 28 [.slice A_p0 n_p0 c_p0, .int .i64 p1, .slice A_p2 n_p2 c_p2].toArray w0 fun x w1 => ∃ u, x = .returned ((fun (r : Int) (_u : Unit) => .int .i64 r) r u) ∧ Hs w0 ((fun (_r : Int) (_u : Unit) => []) r u) w1 := by
 refine calls_cm (n := 73) (R := fun r x w1 => ∃ u, x = .returned ((fun (r : Int) (_u : Unit) => .int .i64 r) r u) ∧ Hs w0 ((fun (_r : Int) (_u : Unit) => []) r u) w1) Tryz.func28 rfl rfl (Nat.le_of_ble_eq_true rfl) ?_ r hr
 unfold m_household_Check
 refine cq ?_
 refine cr ?_
 refine lv 6 (by kernel_rfl) (fun w1 c1 => (oa (v := .int .i64 _) rfl)) ?_
 refine ln ?_
 refine xn ?_
 refine cq ?_
 refine cq ?_
 refine cm_cutE [(18, .bool ((decide (p1 < 0)) || (decide (256 < p1))))] ?_ ?_
 ·skip
  refine wv 13 (by kernel_rfl) (fun w1 c1 => (om (v := .int .i64 _) rfl)) ?_
  refine wq_dec 14 (by kernel_rfl) (fun w1 c1 => (op_lss rfl rfl)) (fun h5 => ?_) (fun h5 => ?_)
  ·skip
   refine wv 15 (by kernel_rfl) (fun w1 c1 => (om (v := .bool true) rfl)) ?_
   refine wk 16 (by kernel_rfl) ?_
   refine wk 17 (by kernel_rfl) ?_
   refine wv 18 (by kernel_rfl) (fun w1 c1 => (opt (v := .bool true) rfl rfl)) ?_
   exact leaf_q (sub_out 6 _ rfl (by kernel_rfl) ⟨(congrArg Value.bool (by rw [decide_eq_true h5] <;> rfl)), trivial⟩)
  ·skip
   refine wv 15 (by kernel_rfl) (fun w1 c1 => (om (v := .bool false) rfl)) ?_
   refine wv 16 (by kernel_rfl) (fun w1 c1 => (om (v := .int .i64 _) rfl)) ?_
   refine wv 17 (by kernel_rfl) (fun w1 c1 => (op_gtr rfl rfl)) ?_
   refine wv 18 (by kernel_rfl) (fun w1 c1 => (opf (v := .bool _) rfl rfl)) ?_
   exact leaf_q (sub_out 6 _ rfl (by kernel_rfl) ⟨(congrArg Value.bool (by rw [decide_eq_false h5] <;> rfl)), trivial⟩)
 refine xn ?_
 refine cm_condB (by kernel_rfl) rfl (fun h6 => ?_) (fun h6 => ?_)
 ·skip
  refine cq ?_
  refine cr ?_
  refine lv 6 (by kernel_rfl) (fun w1 c1 => (oa (v := .int .i64 _) rfl)) ?_
  refine ln ?_
  refine xn ?_
  refine cm_ret ?_
  refine xm_thenR ?_
  exact xm_retT rfl (by kernel_rfl) (show _ = Value.int .i64 _ from rfl) fun w1 c1 => ⟨(), rfl, hsub [] (by kernel_rfl) rfl w1 c1⟩
 ·skip
  refine cm_skip ?_
  refine xn ?_
  refine cq ?_
  refine cq ?_
  refine cr ?_
  refine lv 19 (by kernel_rfl) (fun w1 c1 => (om (v := .slice _ _ _) rfl)) ?_
  refine lm_call 20 (V := (fun (r : Int) (_u : Unit) => .int .i64 r)) (HR := (fun (_r : Int) (_u : Unit) => [])) (by kernel_rfl) (fun w1 => op_call (by kernel_rfl)) (fun r1 hr1 w1 c1 => m_household_people_ok N w1 p0 A_p0 n_p0 c_p0 (hr_p0.old c1) hz_p0 r1 hr1) ?_
  intro r7 u8
  refine lv 7 (by kernel_rfl) (fun w1 c1 => (oa (v := .int .i64 _) rfl)) ?_
  refine ln ?_
  refine xn ?_
  refine cq ?_
  refine cr ?_
  refine lv 21 (by kernel_rfl) (fun w1 c1 => (om (v := .int .i64 _) rfl)) ?_
  refine lv 22 (by kernel_rfl) (fun w1 c1 => (op_neq rfl rfl)) ?_
  refine ln ?_
  refine xn ?_
  refine cm_cond (by kernel_rfl) rfl (fun h9 => ?_) (fun h9 => ?_)
  ·skip
   refine cq ?_
   refine cr ?_
   refine lv 23 (by kernel_rfl) (fun w1 c1 => (om (v := .int .i64 _) rfl)) ?_
   refine lv 6 (by kernel_rfl) (fun w1 c1 => (oa (v := .int .i64 _) rfl)) ?_
   refine ln ?_
   refine xn ?_
   refine cm_ret ?_
   refine xm_thenR ?_
   exact xm_retT rfl (by kernel_rfl) (show _ = Value.int .i64 _ from rfl) fun w1 c1 => ⟨(), rfl, hsub [] (by kernel_rfl) rfl w1 c1⟩
  ·skip
   refine cm_skip ?_
   refine xn ?_
   refine cq ?_
   refine cq ?_
   refine cr ?_
   refine lv 24 (by kernel_rfl) (fun w1 c1 => (om (v := .slice _ _ _) rfl)) ?_
   refine lv 25 (by kernel_rfl) (fun w1 c1 => (op_lenN rfl (by kernel_rfl) hz_p2.2.2)) ?_
   refine lv 26 (by kernel_rfl) (fun w1 c1 => (op_gtr rfl rfl)) ?_
   refine ln ?_
   refine xn ?_
   refine cm_cond (by kernel_rfl) rfl (fun h10 => ?_) (fun h10 => ?_)
   ·skip
    refine cq ?_
    refine cr ?_
    refine lv 6 (by kernel_rfl) (fun w1 c1 => (oa (v := .int .i64 _) rfl)) ?_
    refine ln ?_
    refine xn ?_
    refine cm_ret ?_
    refine xm_thenR ?_
    exact xm_retT rfl (by kernel_rfl) (show _ = Value.int .i64 _ from rfl) fun w1 c1 => ⟨(), rfl, hsub [] (by kernel_rfl) rfl w1 c1⟩
   ·skip
    refine cm_skip ?_
    refine xn ?_
    refine cm_join (σ := Unit) (ξ := Unit) (fun s50 u51 => [(2, .slice A_p2 n_p2 c_p2)]) (fun s50 u51 => []) ?_ ?_
    ·skip
     refine cq ?_
     refine cr ?_
     refine lv 27 (by kernel_rfl) (fun w1 c1 => (om (v := .slice _ _ _) rfl)) ?_
     refine lv 28 (by kernel_rfl) (fun w1 c1 => (op_lenN rfl (by kernel_rfl) hz_p2.2.2)) ?_
     refine lv 29 (by kernel_rfl) (fun w1 c1 => (om (v := .int .i64 _) rfl)) ?_
     refine ln ?_
     refine xn ?_
     refine cm_block ?_
     refine cm_loop (σ := Int) (ξ := Unit) (fun s78 u79 => [(0, .slice A_p0 n_p0 c_p0), (1, .int .i64 p1), (2, .slice A_p2 n_p2 c_p2), (27, .slice A_p2 n_p2 c_p2), (28, .int .i64 (List.length p2 : Int)), (29, .int .i64 s78)]) (fun s78 u79 => []) () ?_ ?_ ?_
     ·exact (sc (by kernel_rfl) rfl (sc (by kernel_rfl) rfl (sc (by kernel_rfl) rfl (sc (by kernel_rfl) rfl (sc (by kernel_rfl) rfl (sc (by kernel_rfl) rfl sub_nil))))))
     ·exact hsub [] (by kernel_rfl) rfl
     intro s78 u79
     refine cq ?_
     refine cr ?_
     refine lv 30 (by kernel_rfl) (fun w1 c1 => (op_lss rfl rfl)) ?_
     refine ln ?_
     refine xn ?_
     refine cq ?_
     refine cm_cond (by kernel_rfl) rfl (fun h80 => ?_) (fun h80 => ?_)
     ·skip
      refine cm_skip ?_
      refine xn ?_
      refine cq ?_
      refine cm_block ?_
      refine cq ?_
      refine cr ?_
      refine lm_ck (fun h81 => ?_)
      refine lv 31 (by kernel_rfl) (fun w1 c1 => (op_indexA 4 rfl rfl (by kernel_rfl) ((hr_p2.old c1).addr h81.1 h81.2) hz_p2.2.2 h81.1 h81.2)) ?_
      refine lv 32 (by kernel_rfl) (fun w1 c1 => (op_loadR [.int .i64 ((ix p2 s78).Container), .int .i64 ((ix p2 s78).Household), .int .i64 ((ix p2 s78).When.From), .int .i64 ((ix p2 s78).When.To)] rfl (by kernel_rfl) ((hr_p2.old c1).row h81.1 h81.2))) ?_
      refine lm_alloc 9 [.int .i64 0, .int .i64 0, .int .i64 0, .int .i64 0] (v := .agg #[.int .i64 0, .int .i64 0, .int .i64 0, .int .i64 0]) (by kernel_rfl) (by kernel_rfl) rfl ?_
      intro b82
      refine lm_storeA 0 [.int .i64 _, .int .i64 _, .int .i64 _, .int .i64 _] [_, _, _, _] (H' := [blkE _ _ [_, _, _, _]]) (by kernel_rfl) rfl rfl (by kernel_rfl) rfl rfl (by kernel_rfl) rfl rfl ?_
      refine ln ?_
      refine xn ?_
      refine cq ?_
      refine cq ?_
      refine cm_cutE [(53, .bool ((((decide ((ix p2 s78).Container < 0)) || (decide (p1 ≤ (ix p2 s78).Container))) || (decide ((ix p2 s78).Household < 0))) || (decide ((List.length p0 : Int) ≤ (ix p2 s78).Household))))] ?_ ?_
      ·skip
       refine wv 33 (by kernel_rfl) (fun w1 c1 => (oF (m := 0) (k := 0) rfl (by kernel_rfl) rfl)) ?_
       refine wv 34 (by kernel_rfl) (fun w1 c1 => (ol rfl (by kernel_rfl) (c1.cell 0 (u := .int .i64 _) rfl rfl))) ?_
       refine wq_dec 35 (by kernel_rfl) (fun w1 c1 => (op_lss rfl rfl)) (fun h83 => ?_) (fun h83 => ?_)
       ·skip
        refine wv 36 (by kernel_rfl) (fun w1 c1 => (om (v := .bool true) rfl)) ?_
        refine wk 37 (by kernel_rfl) ?_
        refine wk 38 (by kernel_rfl) ?_
        refine wk 39 (by kernel_rfl) ?_
        refine wk 40 (by kernel_rfl) ?_
        refine wv 41 (by kernel_rfl) (fun w1 c1 => (opt (v := .bool true) rfl rfl)) ?_
        refine wv 42 (by kernel_rfl) (fun w1 c1 => (om (v := .bool true) rfl)) ?_
        refine wk 43 (by kernel_rfl) ?_
        refine wk 44 (by kernel_rfl) ?_
        refine wk 45 (by kernel_rfl) ?_
        refine wv 46 (by kernel_rfl) (fun w1 c1 => (opt (v := .bool true) rfl rfl)) ?_
        refine wv 47 (by kernel_rfl) (fun w1 c1 => (om (v := .bool true) rfl)) ?_
        refine wk 48 (by kernel_rfl) ?_
        refine wk 49 (by kernel_rfl) ?_
        refine wk 50 (by kernel_rfl) ?_
        refine wk 51 (by kernel_rfl) ?_
        refine wk 52 (by kernel_rfl) ?_
        refine wv 53 (by kernel_rfl) (fun w1 c1 => (opt (v := .bool true) rfl rfl)) ?_
        exact leaf_q (sub_out 21 _ rfl (by kernel_rfl) ⟨(congrArg Value.bool (by rw [decide_eq_true h83] <;> rfl)), trivial⟩)
       ·skip
        refine wv 36 (by kernel_rfl) (fun w1 c1 => (om (v := .bool false) rfl)) ?_
        refine wv 37 (by kernel_rfl) (fun w1 c1 => (oF (m := 0) (k := 0) rfl (by kernel_rfl) rfl)) ?_
        refine wv 38 (by kernel_rfl) (fun w1 c1 => (ol rfl (by kernel_rfl) (c1.cell 0 (u := .int .i64 _) rfl rfl))) ?_
        refine wv 39 (by kernel_rfl) (fun w1 c1 => (om (v := .int .i64 _) rfl)) ?_
        refine wq_dec 40 (by kernel_rfl) (fun w1 c1 => (op_geq rfl rfl)) (fun h84 => ?_) (fun h84 => ?_)
        ·skip
         refine wv 41 (by kernel_rfl) (fun w1 c1 => (opf (v := .bool true) rfl rfl)) ?_
         refine wv 42 (by kernel_rfl) (fun w1 c1 => (om (v := .bool true) rfl)) ?_
         refine wk 43 (by kernel_rfl) ?_
         refine wk 44 (by kernel_rfl) ?_
         refine wk 45 (by kernel_rfl) ?_
         refine wv 46 (by kernel_rfl) (fun w1 c1 => (opt (v := .bool true) rfl rfl)) ?_
         refine wv 47 (by kernel_rfl) (fun w1 c1 => (om (v := .bool true) rfl)) ?_
         refine wk 48 (by kernel_rfl) ?_
         refine wk 49 (by kernel_rfl) ?_
         refine wk 50 (by kernel_rfl) ?_
         refine wk 51 (by kernel_rfl) ?_
         refine wk 52 (by kernel_rfl) ?_
         refine wv 53 (by kernel_rfl) (fun w1 c1 => (opt (v := .bool true) rfl rfl)) ?_
         exact leaf_q (sub_out 21 _ rfl (by kernel_rfl) ⟨(congrArg Value.bool (by rw [decide_eq_false h83, decide_eq_true h84] <;> rfl)), trivial⟩)
        ·skip
         refine wv 41 (by kernel_rfl) (fun w1 c1 => (opf (v := .bool false) rfl rfl)) ?_
         refine wv 42 (by kernel_rfl) (fun w1 c1 => (om (v := .bool false) rfl)) ?_
         refine wv 43 (by kernel_rfl) (fun w1 c1 => (oF (m := 1) (k := 1) rfl (by kernel_rfl) rfl)) ?_
         refine wv 44 (by kernel_rfl) (fun w1 c1 => (ol rfl (by kernel_rfl) (c1.cell 0 (u := .int .i64 _) rfl rfl))) ?_
         refine wq_dec 45 (by kernel_rfl) (fun w1 c1 => (op_lss rfl rfl)) (fun h85 => ?_) (fun h85 => ?_)
         ·skip
          refine wv 46 (by kernel_rfl) (fun w1 c1 => (opf (v := .bool true) rfl rfl)) ?_
          refine wv 47 (by kernel_rfl) (fun w1 c1 => (om (v := .bool true) rfl)) ?_
          refine wk 48 (by kernel_rfl) ?_
          refine wk 49 (by kernel_rfl) ?_
          refine wk 50 (by kernel_rfl) ?_
          refine wk 51 (by kernel_rfl) ?_
          refine wk 52 (by kernel_rfl) ?_
          refine wv 53 (by kernel_rfl) (fun w1 c1 => (opt (v := .bool true) rfl rfl)) ?_
          exact leaf_q (sub_out 21 _ rfl (by kernel_rfl) ⟨(congrArg Value.bool (by rw [decide_eq_false h83, decide_eq_false h84, decide_eq_true h85] <;> rfl)), trivial⟩)
         ·skip
          refine wv 46 (by kernel_rfl) (fun w1 c1 => (opf (v := .bool false) rfl rfl)) ?_
          refine wv 47 (by kernel_rfl) (fun w1 c1 => (om (v := .bool false) rfl)) ?_
          refine wv 48 (by kernel_rfl) (fun w1 c1 => (oF (m := 1) (k := 1) rfl (by kernel_rfl) rfl)) ?_
          refine wv 49 (by kernel_rfl) (fun w1 c1 => (ol rfl (by kernel_rfl) (c1.cell 0 (u := .int .i64 _) rfl rfl))) ?_
          refine wv 50 (by kernel_rfl) (fun w1 c1 => (om (v := .slice _ _ _) rfl)) ?_
          refine wv 51 (by kernel_rfl) (fun w1 c1 => (op_lenN rfl (by kernel_rfl) hz_p0.2.2)) ?_
          refine wv 52 (by kernel_rfl) (fun w1 c1 => (op_geq rfl rfl)) ?_
          refine wv 53 (by kernel_rfl) (fun w1 c1 => (opf (v := .bool _) rfl rfl)) ?_
          exact leaf_q (sub_out 21 _ rfl (by kernel_rfl) ⟨(congrArg Value.bool (by rw [decide_eq_false h83, decide_eq_false h84, decide_eq_false h85] <;> rfl)), trivial⟩)
      refine xn ?_
      refine cm_condB (by kernel_rfl) rfl (fun h86 => ?_) (fun h86 => ?_)
      ·skip
       refine cq ?_
       refine cr ?_
       refine lv 6 (by kernel_rfl) (fun w1 c1 => (oa (v := .int .i64 _) rfl)) ?_
       refine ln ?_
       refine xn ?_
       refine cm_ret ?_
       refine xm_thenR ?_
       refine xm_inR ?_
       refine xm_thenR ?_
       refine xm_lret ?_
       refine xm_inR ?_
       refine xm_lret ?_
       exact xm_retT rfl (by kernel_rfl) (show _ = Value.int .i64 _ from rfl) fun w1 c1 => ⟨(), rfl, hsub [] (by kernel_rfl) rfl w1 c1⟩
      ·skip
       refine cm_skip ?_
       refine xn ?_
       refine cq ?_
       refine cr ?_
       refine lv 54 (by kernel_rfl) (fun w1 c1 => (oF (m := 2) (k := 2) rfl (by kernel_rfl) rfl)) ?_
       refine lv 55 (by kernel_rfl) (fun w1 c1 => (op_loadR [.int .i64 _, .int .i64 _] rfl (by kernel_rfl) (c1.cells 0 rfl rfl))) ?_
       refine lm_call 56 (V := (fun (r : Bool) (_u : Unit) => .bool r)) (HR := (fun (_r : Bool) (_u : Unit) => [])) (by kernel_rfl) (fun w1 => op_call (by kernel_rfl)) (fun r1 hr1 w1 c1 => m_household_valid_ok N w1 ((ix p2 s78).When)  r1 hr1) ?_
       intro r87 u88
       refine lv 57 (by kernel_rfl) (fun w1 c1 => (op_not rfl)) ?_
       refine ln ?_
       refine xn ?_
       refine cm_condB (by kernel_rfl) rfl (fun h89 => ?_) (fun h89 => ?_)
       ·skip
        refine cq ?_
        refine cr ?_
        refine lv 6 (by kernel_rfl) (fun w1 c1 => (oa (v := .int .i64 _) rfl)) ?_
        refine ln ?_
        refine xn ?_
        refine cm_ret ?_
        refine xm_inR ?_
        refine xm_thenR ?_
        refine xm_lret ?_
        refine xm_inR ?_
        refine xm_lret ?_
        exact xm_retT rfl (by kernel_rfl) (show _ = Value.int .i64 _ from rfl) fun w1 c1 => ⟨(), rfl, hsub [] (by kernel_rfl) rfl w1 c1⟩
       ·skip
        refine cm_skip ?_
        refine xm_inN ?_
        refine xn ?_
        refine cr ?_
        refine lm_ck (fun h90 => ?_)
        refine lv 58 (by kernel_rfl) (fun w1 c1 => (op_add rfl rfl h90)) ?_
        refine lv 29 (by kernel_rfl) (fun w1 c1 => (om (v := .int .i64 _) rfl)) ?_
        refine ln ?_
        exact xm_lnext () (sc (by kernel_rfl) rfl (sc (by kernel_rfl) rfl (sc (by kernel_rfl) rfl (sc (by kernel_rfl) rfl (sc (by kernel_rfl) rfl (sc (by kernel_rfl) rfl sub_nil)))))) (hsub [] (by kernel_rfl) rfl)
     ·skip
      refine cm_exit ?_
      refine xm_thenE ?_
      refine xm_lexit ?_
      refine xm_here ?_
      exact xm_lnext () (sc (by kernel_rfl) rfl sub_nil) (hsub [] (by kernel_rfl) rfl)
    intro s50 u51
    refine cm_join (σ := Unit) (ξ := Unit) (fun s121 u122 => []) (fun s121 u122 => []) ?_ ?_
    ·skip
     refine cq ?_
     refine cr ?_
     refine lv 59 (by kernel_rfl) (fun w1 c1 => (om (v := .slice _ _ _) rfl)) ?_
     refine lv 60 (by kernel_rfl) (fun w1 c1 => (op_lenN rfl (by kernel_rfl) hz_p2.2.2)) ?_
     refine lv 61 (by kernel_rfl) (fun w1 c1 => (om (v := .int .i64 _) rfl)) ?_
     refine ln ?_
     refine xn ?_
     refine cm_block ?_
     refine cm_loop (σ := Int) (ξ := Unit) (fun s143 u144 => [(2, .slice A_p2 n_p2 c_p2), (59, .slice A_p2 n_p2 c_p2), (60, .int .i64 (List.length p2 : Int)), (61, .int .i64 s143)]) (fun s143 u144 => []) () ?_ ?_ ?_
     ·exact (sc (by kernel_rfl) rfl (sc (by kernel_rfl) rfl (sc (by kernel_rfl) rfl (sc (by kernel_rfl) rfl sub_nil))))
     ·exact hsub [] (by kernel_rfl) rfl
     intro s143 u144
     refine cq ?_
     refine cr ?_
     refine lv 62 (by kernel_rfl) (fun w1 c1 => (op_lss rfl rfl)) ?_
     refine ln ?_
     refine xn ?_
     refine cq ?_
     refine cm_cond (by kernel_rfl) rfl (fun h145 => ?_) (fun h145 => ?_)
     ·skip
      refine cm_skip ?_
      refine xn ?_
      refine cq ?_
      refine cm_block ?_
      refine cq ?_
      refine cr ?_
      refine lv 63 (by kernel_rfl) (fun w1 c1 => (om (v := .int .i64 _) rfl)) ?_
      refine lm_ck (fun h146 => ?_)
      refine lv 64 (by kernel_rfl) (fun w1 c1 => (op_indexA 4 rfl rfl (by kernel_rfl) ((hr_p2.old c1).addr h146.1 h146.2) hz_p2.2.2 h146.1 h146.2)) ?_
      refine lv 65 (by kernel_rfl) (fun w1 c1 => (op_loadR [.int .i64 ((ix p2 s143).Container), .int .i64 ((ix p2 s143).Household), .int .i64 ((ix p2 s143).When.From), .int .i64 ((ix p2 s143).When.To)] rfl (by kernel_rfl) ((hr_p2.old c1).row h146.1 h146.2))) ?_
      refine lm_alloc 11 [.int .i64 0, .int .i64 0, .int .i64 0, .int .i64 0] (v := .agg #[.int .i64 0, .int .i64 0, .int .i64 0, .int .i64 0]) (by kernel_rfl) (by kernel_rfl) rfl ?_
      intro b147
      refine lv 10 (by kernel_rfl) (fun w1 c1 => (oa (v := .int .i64 _) rfl)) ?_
      refine lm_storeA 0 [.int .i64 _, .int .i64 _, .int .i64 _, .int .i64 _] [_, _, _, _] (H' := [blkE _ _ [_, _, _, _]]) (by kernel_rfl) rfl rfl (by kernel_rfl) rfl rfl (by kernel_rfl) rfl rfl ?_
      refine ln ?_
      refine xn ?_
      refine cq ?_
      refine cr ?_
      refine lv 66 (by kernel_rfl) (fun w1 c1 => (op_makeFuncC [.pointer (some ⟨_, _, _⟩)] rfl)) ?_
      refine lv 12 (by kernel_rfl) (fun w1 c1 => (oa (v := .func _ _ _) rfl)) ?_
      refine ln ?_
      refine xn ?_
      refine cq ?_
      refine cr ?_
      refine lv 67 (by kernel_rfl) (fun w1 c1 => (om (v := .slice _ _ _) rfl)) ?_
      refine lv 68 (by kernel_rfl) (fun w1 c1 => (om (v := .int .i64 _) rfl)) ?_
      refine lm_ck (fun h148 => ?_)
      refine lv 69 (by kernel_rfl) (fun w1 c1 => (op_sliceTo2 (l := p2) rfl rfl (by kernel_rfl) (by kernel_rfl) hz_p2 h148.1 h148.2)) ?_
      refine lv 70 (by kernel_rfl) (fun w1 c1 => (om (v := .func _ _ _) rfl)) ?_
      refine lm_call 71 (V := (fun (r : Bool) (_u : Unit) => .bool r)) (HR := (fun (_r : Bool) (_u : Unit) => [])) (by kernel_rfl) (fun w1 => op_call (by kernel_rfl)) (fun r1 hr1 w1 c1 => m_slices_ContainsFunc_household_Check_1_ok N w1 (List.take (Int.toNat s143) p2) (ix p2 s143) A_p2 (Int.toNat s143) c_p2 b147 ((hr_p2.old c1).take h148.1 h148.2) (hz_p2.take h148.1 h148.2) (c1.blk 0 rfl) r1 hr1) ?_
      intro r149 u150
      refine ln ?_
      refine xn ?_
      refine cm_condB (by kernel_rfl) rfl (fun h151 => ?_) (fun h151 => ?_)
      ·skip
       refine cq ?_
       refine cr ?_
       refine lv 6 (by kernel_rfl) (fun w1 c1 => (oa (v := .int .i64 _) rfl)) ?_
       refine ln ?_
       refine xn ?_
       refine cm_ret ?_
       refine xm_inR ?_
       refine xm_thenR ?_
       refine xm_lret ?_
       refine xm_inR ?_
       refine xm_lret ?_
       exact xm_retT rfl (by kernel_rfl) (show _ = Value.int .i64 _ from rfl) fun w1 c1 => ⟨(), rfl, hsub [] (by kernel_rfl) rfl w1 c1⟩
      ·skip
       refine cm_skip ?_
       refine xm_inN ?_
       refine xn ?_
       refine cr ?_
       refine lm_ck (fun h152 => ?_)
       refine lv 72 (by kernel_rfl) (fun w1 c1 => (op_add rfl rfl h152)) ?_
       refine lv 61 (by kernel_rfl) (fun w1 c1 => (om (v := .int .i64 _) rfl)) ?_
       refine ln ?_
       exact xm_lnext () (sc (by kernel_rfl) rfl (sc (by kernel_rfl) rfl (sc (by kernel_rfl) rfl (sc (by kernel_rfl) rfl sub_nil)))) (hsub [] (by kernel_rfl) rfl)
     ·skip
      refine cm_exit ?_
      refine xm_thenE ?_
      refine xm_lexit ?_
      refine xm_here ?_
      exact xm_lnext () sub_nil (hsub [] (by kernel_rfl) rfl)
    intro s121 u122
    refine cq ?_
    refine cr ?_
    refine lv 6 (by kernel_rfl) (fun w1 c1 => (oa (v := .int .i64 _) rfl)) ?_
    refine ln ?_
    refine xn ?_
    refine cm_ret ?_
    exact xm_retT rfl (by kernel_rfl) (show _ = Value.int .i64 _ from rfl) fun w1 c1 => ⟨(), rfl, hsub [] (by kernel_rfl) rfl w1 c1⟩
/-- recyclingref14.Window -/
def m_recyclingref14_Window (_N : Nat) (p0 : ApiWindow) : Option (Bool) :=
 some ((((decide (0 ≤ p0.From)) && (decide (p0.From ≤ p0.To))) && (decide (p0.To ≤ 3155760000))))
set_option maxRecDepth 20000 in
theorem m_recyclingref14_Window_ok (N : Nat) (w0 : World) (p0 : ApiWindow)   (r : Bool) (hr : m_recyclingref14_Window N p0 = some r) :
  Calls Tryz.prog 56 [.agg #[.int .i64 p0.From, .int .i64 p0.To]].toArray w0 fun x w1 => ∃ u, x = .returned ((fun (r : Bool) (_u : Unit) => .bool r) r u) ∧ Hs w0 ((fun (_r : Bool) (_u : Unit) => []) r u) w1 := by
 refine calls_cm (n := 18) (R := fun r x w1 => ∃ u, x = .returned ((fun (r : Bool) (_u : Unit) => .bool r) r u) ∧ Hs w0 ((fun (_r : Bool) (_u : Unit) => []) r u) w1) Tryz.func56 rfl rfl (Nat.le_of_ble_eq_true rfl) ?_ r hr
 unfold m_recyclingref14_Window
 refine cq ?_
 refine cr ?_
 refine lm_box 1 [.int .i64 _, .int .i64 _] (by kernel_rfl) rfl ?_
 intro b5
 refine lv 2 (by kernel_rfl) (fun w1 c1 => (oa (v := .bool false) rfl)) ?_
 refine ln ?_
 refine xn ?_
 refine cq ?_
 refine cm_cutE [(2, .bool (((decide (0 ≤ p0.From)) && (decide (p0.From ≤ p0.To))) && (decide (p0.To ≤ 3155760000))))] ?_ ?_
 ·skip
  refine wv 3 (by kernel_rfl) (fun w1 c1 => (oF (m := 0) (k := 0) rfl (by kernel_rfl) rfl)) ?_
  refine wv 4 (by kernel_rfl) (fun w1 c1 => (ol rfl (by kernel_rfl) (c1.cell 0 (u := .int .i64 _) rfl rfl))) ?_
  refine wq_dec 5 (by kernel_rfl) (fun w1 c1 => (op_geq rfl rfl)) (fun h6 => ?_) (fun h6 => ?_)
  ·skip
   refine wv 6 (by kernel_rfl) (fun w1 c1 => (om (v := .bool true) rfl)) ?_
   refine wv 7 (by kernel_rfl) (fun w1 c1 => (oF (m := 0) (k := 0) rfl (by kernel_rfl) rfl)) ?_
   refine wv 8 (by kernel_rfl) (fun w1 c1 => (ol rfl (by kernel_rfl) (c1.cell 0 (u := .int .i64 _) rfl rfl))) ?_
   refine wv 9 (by kernel_rfl) (fun w1 c1 => (oF (m := 1) (k := 1) rfl (by kernel_rfl) rfl)) ?_
   refine wv 10 (by kernel_rfl) (fun w1 c1 => (ol rfl (by kernel_rfl) (c1.cell 0 (u := .int .i64 _) rfl rfl))) ?_
   refine wq_dec 11 (by kernel_rfl) (fun w1 c1 => (op_leq rfl rfl)) (fun h7 => ?_) (fun h7 => ?_)
   ·skip
    refine wv 12 (by kernel_rfl) (fun w1 c1 => (opt (v := .bool true) rfl rfl)) ?_
    refine wv 13 (by kernel_rfl) (fun w1 c1 => (om (v := .bool true) rfl)) ?_
    refine wv 14 (by kernel_rfl) (fun w1 c1 => (oF (m := 1) (k := 1) rfl (by kernel_rfl) rfl)) ?_
    refine wv 15 (by kernel_rfl) (fun w1 c1 => (ol rfl (by kernel_rfl) (c1.cell 0 (u := .int .i64 _) rfl rfl))) ?_
    refine wv 16 (by kernel_rfl) (fun w1 c1 => (op_leq rfl rfl)) ?_
    refine wv 17 (by kernel_rfl) (fun w1 c1 => (opt (v := .bool _) rfl rfl)) ?_
    refine wv 2 (by kernel_rfl) (fun w1 c1 => (oa (v := .bool _) rfl)) ?_
    exact leaf_q (sub_out 16 _ rfl (by kernel_rfl) ⟨(congrArg Value.bool (by rw [decide_eq_true h6, decide_eq_true h7] <;> rfl)), trivial⟩)
   ·skip
    refine wv 12 (by kernel_rfl) (fun w1 c1 => (opt (v := .bool false) rfl rfl)) ?_
    refine wv 13 (by kernel_rfl) (fun w1 c1 => (om (v := .bool false) rfl)) ?_
    refine wk 14 (by kernel_rfl) ?_
    refine wk 15 (by kernel_rfl) ?_
    refine wk 16 (by kernel_rfl) ?_
    refine wv 17 (by kernel_rfl) (fun w1 c1 => (opf (v := .bool false) rfl rfl)) ?_
    refine wv 2 (by kernel_rfl) (fun w1 c1 => (oa (v := .bool false) rfl)) ?_
    exact leaf_q (sub_out 16 _ rfl (by kernel_rfl) ⟨(congrArg Value.bool (by rw [decide_eq_true h6, decide_eq_false h7] <;> rfl)), trivial⟩)
  ·skip
   refine wv 6 (by kernel_rfl) (fun w1 c1 => (om (v := .bool false) rfl)) ?_
   refine wk 7 (by kernel_rfl) ?_
   refine wk 8 (by kernel_rfl) ?_
   refine wk 9 (by kernel_rfl) ?_
   refine wk 10 (by kernel_rfl) ?_
   refine wk 11 (by kernel_rfl) ?_
   refine wv 12 (by kernel_rfl) (fun w1 c1 => (opf (v := .bool false) rfl rfl)) ?_
   refine wv 13 (by kernel_rfl) (fun w1 c1 => (om (v := .bool false) rfl)) ?_
   refine wk 14 (by kernel_rfl) ?_
   refine wk 15 (by kernel_rfl) ?_
   refine wk 16 (by kernel_rfl) ?_
   refine wv 17 (by kernel_rfl) (fun w1 c1 => (opf (v := .bool false) rfl rfl)) ?_
   refine wv 2 (by kernel_rfl) (fun w1 c1 => (oa (v := .bool false) rfl)) ?_
   exact leaf_q (sub_out 16 _ rfl (by kernel_rfl) ⟨(congrArg Value.bool (by rw [decide_eq_false h6] <;> rfl)), trivial⟩)
 refine xn ?_
 refine cm_ret ?_
 exact xm_retT rfl (by kernel_rfl) (show _ = Value.bool _ from rfl) fun w1 c1 => ⟨(), rfl, hsub [] (by kernel_rfl) rfl w1 c1⟩
/-- recyclingref14.common -/
def m_recyclingref14_common (_N : Nat) (p0 : ApiWindow) (p1 : ApiWindow) : Option (ApiWindow × Bool) :=
 (andThen
  (if p0.From < p1.From then
   some (.next p1.From)
  else
   some (.next p0.From))
 fun (s9 : Int) =>
  (andThen
   (if p1.To < p0.To then
    some (.next p1.To)
   else
    some (.next p0.To))
  fun (s13 : Int) =>
   some (((ApiWindow.mk s9 s13), (decide (s9 < s13))))))
set_option maxRecDepth 20000 in
theorem m_recyclingref14_common_ok (N : Nat) (w0 : World) (p0 : ApiWindow) (p1 : ApiWindow)   (r : ApiWindow × Bool) (hr : m_recyclingref14_common N p0 p1 = some r) :
  Calls Tryz.prog 57 [.agg #[.int .i64 p0.From, .int .i64 p0.To], .agg #[.int .i64 p1.From, .int .i64 p1.To]].toArray w0 fun x w1 => ∃ u, x = .returned ((fun (r : ApiWindow × Bool) (_u : Unit) => .tuple #[.agg #[.int .i64 r.1.From, .int .i64 r.1.To], .bool r.2]) r u) ∧ Hs w0 ((fun (_r : ApiWindow × Bool) (_u : Unit) => []) r u) w1 := by
 refine calls_cm (n := 28) (R := fun r x w1 => ∃ u, x = .returned ((fun (r : ApiWindow × Bool) (_u : Unit) => .tuple #[.agg #[.int .i64 r.1.From, .int .i64 r.1.To], .bool r.2]) r u) ∧ Hs w0 ((fun (_r : ApiWindow × Bool) (_u : Unit) => []) r u) w1) Tryz.func57 rfl rfl (Nat.le_of_ble_eq_true rfl) ?_ r hr
 unfold m_recyclingref14_common
 refine cq ?_
 refine cr ?_
 refine lm_box 2 [.int .i64 _, .int .i64 _] (by kernel_rfl) rfl ?_
 intro b5
 refine lm_box 3 [.int .i64 _, .int .i64 _] (by kernel_rfl) rfl ?_
 intro b6
 refine lm_alloc 4 [.int .i64 0, .int .i64 0] (v := .agg #[.int .i64 0, .int .i64 0]) (by kernel_rfl) (by kernel_rfl) rfl ?_
 intro b7
 refine lv 5 (by kernel_rfl) (fun w1 c1 => (oa (v := .bool false) rfl)) ?_
 refine ln ?_
 refine xn ?_
 refine cm_join (σ := Int) (ξ := Unit) (fun s9 u10 => [(2, .pointer (some ⟨b5, 0, none⟩)), (3, .pointer (some ⟨b6, 0, none⟩)), (4, .pointer (some ⟨b7, 0, none⟩))]) (fun s9 u10 => [blkE b5 30 [.int .i64 s9, .int .i64 p0.To], blkE b6 30 [.int .i64 p1.From, .int .i64 p1.To], blkE b7 30 [.int .i64 0, .int .i64 0]]) ?_ ?_
 ·skip
  refine cq ?_
  refine cr ?_
  refine lv 6 (by kernel_rfl) (fun w1 c1 => (oF (m := 0) (k := 0) rfl (by kernel_rfl) rfl)) ?_
  refine lv 7 (by kernel_rfl) (fun w1 c1 => (ol rfl (by kernel_rfl) (c1.cell 1 (u := .int .i64 _) rfl rfl))) ?_
  refine lv 8 (by kernel_rfl) (fun w1 c1 => (oF (m := 0) (k := 0) rfl (by kernel_rfl) rfl)) ?_
  refine lv 9 (by kernel_rfl) (fun w1 c1 => (ol rfl (by kernel_rfl) (c1.cell 2 (u := .int .i64 _) rfl rfl))) ?_
  refine lv 10 (by kernel_rfl) (fun w1 c1 => (op_gtr rfl rfl)) ?_
  refine ln ?_
  refine xn ?_
  refine cm_cond (by kernel_rfl) rfl (fun h11 => ?_) (fun h11 => ?_)
  ·skip
   refine cr ?_
   refine lv 11 (by kernel_rfl) (fun w1 c1 => (oF (m := 0) (k := 0) rfl (by kernel_rfl) rfl)) ?_
   refine lv 12 (by kernel_rfl) (fun w1 c1 => (ol rfl (by kernel_rfl) (c1.cell 1 (u := .int .i64 _) rfl rfl))) ?_
   refine lv 13 (by kernel_rfl) (fun w1 c1 => (oF (m := 0) (k := 0) rfl (by kernel_rfl) rfl)) ?_
   refine lm_store1 2 (v := .int .i64 _) (H' := [_, _, blkE _ _ [_, _]]) (by kernel_rfl) rfl rfl (by kernel_rfl) rfl rfl (by kernel_rfl) rfl ?_
   refine ln ?_
   exact xm_lnext () (sc (by kernel_rfl) rfl (sc (by kernel_rfl) rfl (sc (by kernel_rfl) rfl sub_nil))) (hsub [2, 1, 0] (by kernel_rfl) rfl)
  ·skip
   refine cm_skip ?_
   exact xm_lnext () (sc (by kernel_rfl) rfl (sc (by kernel_rfl) rfl (sc (by kernel_rfl) rfl sub_nil))) (hsub [2, 1, 0] (by kernel_rfl) rfl)
 intro s9 u10
 refine cm_join (σ := Int) (ξ := Unit) (fun s13 u14 => [(2, .pointer (some ⟨b5, 0, none⟩)), (4, .pointer (some ⟨b7, 0, none⟩))]) (fun s13 u14 => [blkE b5 30 [.int .i64 s9, .int .i64 s13], blkE b7 30 [.int .i64 0, .int .i64 0]]) ?_ ?_
 ·skip
  refine cq ?_
  refine cr ?_
  refine lv 14 (by kernel_rfl) (fun w1 c1 => (oF (m := 1) (k := 1) rfl (by kernel_rfl) rfl)) ?_
  refine lv 15 (by kernel_rfl) (fun w1 c1 => (ol rfl (by kernel_rfl) (c1.cell 1 (u := .int .i64 _) rfl rfl))) ?_
  refine lv 16 (by kernel_rfl) (fun w1 c1 => (oF (m := 1) (k := 1) rfl (by kernel_rfl) rfl)) ?_
  refine lv 17 (by kernel_rfl) (fun w1 c1 => (ol rfl (by kernel_rfl) (c1.cell 0 (u := .int .i64 _) rfl rfl))) ?_
  refine lv 18 (by kernel_rfl) (fun w1 c1 => (op_lss rfl rfl)) ?_
  refine ln ?_
  refine xn ?_
  refine cm_cond (by kernel_rfl) rfl (fun h15 => ?_) (fun h15 => ?_)
  ·skip
   refine cr ?_
   refine lv 19 (by kernel_rfl) (fun w1 c1 => (oF (m := 1) (k := 1) rfl (by kernel_rfl) rfl)) ?_
   refine lv 20 (by kernel_rfl) (fun w1 c1 => (ol rfl (by kernel_rfl) (c1.cell 1 (u := .int .i64 _) rfl rfl))) ?_
   refine lv 21 (by kernel_rfl) (fun w1 c1 => (oF (m := 1) (k := 1) rfl (by kernel_rfl) rfl)) ?_
   refine lm_store1 0 (v := .int .i64 _) (H' := [blkE _ _ [_, _], _, _]) (by kernel_rfl) rfl rfl (by kernel_rfl) rfl rfl (by kernel_rfl) rfl ?_
   refine ln ?_
   exact xm_lnext () (sc (by kernel_rfl) rfl (sc (by kernel_rfl) rfl sub_nil)) (hsub [0, 2] (by kernel_rfl) rfl)
  ·skip
   refine cm_skip ?_
   exact xm_lnext () (sc (by kernel_rfl) rfl (sc (by kernel_rfl) rfl sub_nil)) (hsub [0, 2] (by kernel_rfl) rfl)
 intro s13 u14
 refine cq ?_
 refine cm_held (ξ := Unit) (fun u20 => [(4, .pointer (some ⟨b7, 0, none⟩)), (5, .bool (decide (s9 < s13)))]) (fun u20 => [blkE b7 30 [.int .i64 s9, .int .i64 s13]]) [blkE b5 30 [.int .i64 s9, .int .i64 s13]] 8 (by kernel_rfl) (by rfl) (hsub [0] (by kernel_rfl) (by rfl)) ?_ ?_
 ·intro w22 c23
  refine wh_take 0 22 rfl (by kernel_rfl) (by kernel_rfl) (fun w2 c2 => (op_loadR [.int .i64 _, .int .i64 _] rfl (by kernel_rfl) (c2.cells 0 rfl rfl))) (hsub [0] (by kernel_rfl) rfl _ c23) ?_
  refine wh_take 1 23 rfl (by kernel_rfl) (by kernel_rfl) (fun w2 c2 => (oF (m := 0) (k := 0) rfl (by kernel_rfl) rfl)) (hsub [0] (by kernel_rfl) rfl _ c23) ?_
  refine wh_take 2 24 rfl (by kernel_rfl) (by kernel_rfl) (fun w2 c2 => (ol rfl (by kernel_rfl) (c2.cell 0 (u := .int .i64 _) rfl rfl))) (hsub [0] (by kernel_rfl) rfl _ c23) ?_
  refine wh_take 3 25 rfl (by kernel_rfl) (by kernel_rfl) (fun w2 c2 => (oF (m := 1) (k := 1) rfl (by kernel_rfl) rfl)) (hsub [0] (by kernel_rfl) rfl _ c23) ?_
  refine wh_take 4 26 rfl (by kernel_rfl) (by kernel_rfl) (fun w2 c2 => (ol rfl (by kernel_rfl) (c2.cell 0 (u := .int .i64 _) rfl rfl))) (hsub [0] (by kernel_rfl) rfl _ c23) ?_
  refine wh_take 5 27 rfl (by kernel_rfl) (by kernel_rfl) (fun w2 c2 => (op_lss rfl rfl)) (hsub [0] (by kernel_rfl) rfl _ c23) ?_
  refine wh_ready [6] (by kernel_rfl) rfl ⟨?_, trivial⟩
  refine ws_storeA 1 [.int .i64 _, .int .i64 _] [_, _] rfl (by kernel_rfl) rfl rfl (by kernel_rfl) rfl rfl (by kernel_rfl) rfl (H' := [_, blkE _ _ [_, _]]) rfl c23 ?_
  intro w24 c25
  refine ⟨(hsub [0] (by kernel_rfl) rfl _ c25), ?_⟩
  refine wh_take 7 5 rfl (by kernel_rfl) (by kernel_rfl) (fun w2 c2 => (oa (v := .bool _) rfl)) (hsub [0] (by kernel_rfl) rfl _ c25) ?_
  exact wh_done () (by kernel_rfl) (sc (by kernel_rfl) rfl (sc (by kernel_rfl) rfl sub_nil)) (hsub [1] (by kernel_rfl) rfl _ c25)
 intro u20
 refine xn ?_
 refine cm_ret ?_
 exact xm_retCT rfl (by kernel_rfl) (show _ = Value.pointer (some ⟨_, 0, none⟩) from rfl) (by kernel_rfl) (fun w1 c1 => c1.cells 0 (ds := [.int .i64 _, .int .i64 _]) rfl rfl) (by kernel_rfl) (show _ = Value.bool _ from rfl) fun w1 c1 => ⟨(), rfl, hsub [] (by kernel_rfl) rfl w1 c1⟩
/-- recyclingref14.Check -/
def m_recyclingref14_Check (N : Nat) (p0 : (List ApiHousehold)) (p1 : Int) (p2 : (List ApiAssign)) : Option (Int) :=
 (if ((decide (p1 < 0)) || (decide (256 < p1))) = true then
  some ((1 : Int))
 else
  (if 256 < (List.length p0 : Int) then
   some ((8 : Int))
  else
   (andThen
    (loopM (fun (s70 : Int) =>
     (if s70 < (List.length p0 : Int) then
      ck ((0 : Int) ≤ s70 ∧ s70 < (List.length p0 : Int)) (
       Option.bind (m_recyclingref04_Valid N ((ix p0 s70).ID)) fun r74 => (if (!r74) = true then
        some (.done (.done ((5 : Int))))
       else
        ck ((0 : Int) ≤ s70 ∧ s70 < (List.length p0 : Int)) (
         ck ((!(decide ((ix p0 s70).Persons < 1))) = true → (0 : Int) ≤ s70 ∧ s70 < (List.length p0 : Int)) (
          (if ((decide ((ix p0 s70).Persons < 1)) || (decide (100 < (ix p0 s70).Persons))) = true then
           some (.done (.done ((1 : Int))))
          else
           ck (I64 (s70 + (1 : Int))) (
            some (.next (s70 + (1 : Int)))))))))
     else
      some (.done (.next ())))) N (0 : Int))
   fun (_s44 : Unit) =>
    (andThen
     (loopM (fun (s324 : Int) =>
      (if s324 < (List.length p0 : Int) then
       (andThen
        (loopM (fun (s364 : Int) =>
         (if s364 < s324 then
          ck ((0 : Int) ≤ s324 ∧ s324 < (List.length p0 : Int)) (
           ck ((0 : Int) ≤ s364 ∧ s364 < (List.length p0 : Int)) (
            (if ((ix p0 s324).ID) = ((ix p0 s364).ID) then
             some (.done (.done (.done (.done ((6 : Int))))))
            else
             ck (I64 (s364 + (1 : Int))) (
              some (.next (s364 + (1 : Int)))))))
         else
          some (.done (.next ())))) N (0 : Int))
       fun (_s348 : Unit) =>
        ck (I64 (s324 + (1 : Int))) (
         some (.next (s324 + (1 : Int)))))
      else
       some (.done (.next ())))) N (0 : Int))
    fun (_s226 : Unit) =>
     (if 512 < (List.length p2 : Int) then
      some ((8 : Int))
     else
      (andThen
       (loopM (fun (s455 : Int) =>
        (if s455 < (List.length p2 : Int) then
         ck ((0 : Int) ≤ s455 ∧ s455 < (List.length p2 : Int)) (
          ck ((!(decide ((ix p2 s455).Container < 0))) = true → (0 : Int) ≤ s455 ∧ s455 < (List.length p2 : Int)) (
           ck ((!((decide ((ix p2 s455).Container < 0)) || (decide (p1 ≤ (ix p2 s455).Container)))) = true → (0 : Int) ≤ s455 ∧ s455 < (List.length p2 : Int)) (
            ck ((!(((decide ((ix p2 s455).Container < 0)) || (decide (p1 ≤ (ix p2 s455).Container))) || (decide ((ix p2 s455).Household < 0)))) = true → (0 : Int) ≤ s455 ∧ s455 < (List.length p2 : Int)) (
             (if ((((decide ((ix p2 s455).Container < 0)) || (decide (p1 ≤ (ix p2 s455).Container))) || (decide ((ix p2 s455).Household < 0))) || (decide ((List.length p0 : Int) ≤ (ix p2 s455).Household))) = true then
              some (.done (.done ((7 : Int))))
             else
              ck ((0 : Int) ≤ s455 ∧ s455 < (List.length p2 : Int)) (
               Option.bind (m_recyclingref14_Window N ((ix p2 s455).When)) fun r467 => (if (!r467) = true then
                some (.done (.done ((1 : Int))))
               else
                ck (I64 (s455 + (1 : Int))) (
                 some (.next (s455 + (1 : Int)))))))))))
        else
         some (.done (.next ())))) N (0 : Int))
      fun (_s421 : Unit) =>
       (andThen
        (loopM (fun (s2093 : Int) =>
         (if s2093 < (List.length p2 : Int) then
          (andThen
           (loopM (fun (s2363 : Int) =>
            (if s2363 < s2093 then
             ck ((0 : Int) ≤ s2093 ∧ s2093 < (List.length p2 : Int)) (
              ck ((0 : Int) ≤ s2363 ∧ s2363 < (List.length p2 : Int)) (
               Option.bind (m_recyclingref14_common N ((ix p2 s2093).When) ((ix p2 s2363).When)) fun r2368 => ck (r2368.2 = true → (0 : Int) ≤ s2093 ∧ s2093 < (List.length p2 : Int)) (
                ck (r2368.2 = true → (0 : Int) ≤ s2363 ∧ s2363 < (List.length p2 : Int)) (
                 (if (r2368.2 && (decide ((ix p2 s2093).Container = (ix p2 s2363).Container))) = true then
                  some (.done (.done (.done (.done ((12 : Int))))))
                 else
                  ck (I64 (s2363 + (1 : Int))) (
                   some (.next (s2363 + (1 : Int)))))))))
            else
             some (.done (.next ())))) N (0 : Int))
          fun (_s2255 : Unit) =>
           ck (I64 (s2093 + (1 : Int))) (
            some (.next (s2093 + (1 : Int)))))
         else
          some (.done (.next ())))) N (0 : Int))
       fun (_s1443 : Unit) =>
        some ((0 : Int)))))))))
set_option maxHeartbeats 2000000 in
set_option maxRecDepth 20000 in
theorem m_recyclingref14_Check_ok (N : Nat) (w0 : World) (p0 : (List ApiHousehold)) (p1 : Int) (p2 : (List ApiAssign)) (A_p0 : Option Addr) (n_p0 c_p0 : Nat) (A_p2 : Option Addr) (n_p2 c_p2 : Nat) (hr_p0 : RdE w0 2 encApiHousehold A_p0 p0) (hz_p0 : SW A_p0 n_p0 c_p0 (List.length p0)) (hr_p2 : RdE w0 4 encApiAssign A_p2 p2) (hz_p2 : SW A_p2 n_p2 c_p2 (List.length p2)) (r : Int) (hr : m_recyclingref14_Check N p0 p1 p2 = some r) :
  Calls Tryz.prog 35 [.slice A_p0 n_p0 c_p0, .int .i64 p1, .slice A_p2 n_p2 c_p2].toArray w0 fun x w1 => ∃ u, x = .returned ((fun (r : Int) (_u : Unit) => .int .i64 r) r u) ∧ Hs w0 ((fun (_r : Int) (_u : Unit) => []) r u) w1 := by
 refine calls_cm (n := 161) (R := fun r x w1 => ∃ u, x = .returned ((fun (r : Int) (_u : Unit) => .int .i64 r) r u) ∧ Hs w0 ((fun (_r : Int) (_u : Unit) => []) r u) w1) Tryz.func35 rfl rfl (Nat.le_of_ble_eq_true rfl) ?_ r hr
 unfold m_recyclingref14_Check
 refine cq ?_
 refine cr ?_
 refine lv 6 (by kernel_rfl) (fun w1 c1 => (oa (v := .int .i64 _) rfl)) ?_
 refine ln ?_
 refine xn ?_
 refine cq ?_
 refine cq ?_
 refine cm_cutE [(20, .bool ((decide (p1 < 0)) || (decide (256 < p1))))] ?_ ?_
 ·skip
  refine wv 15 (by kernel_rfl) (fun w1 c1 => (om (v := .int .i64 _) rfl)) ?_
  refine wq_dec 16 (by kernel_rfl) (fun w1 c1 => (op_lss rfl rfl)) (fun h5 => ?_) (fun h5 => ?_)
  ·skip
   refine wv 17 (by kernel_rfl) (fun w1 c1 => (om (v := .bool true) rfl)) ?_
   refine wk 18 (by kernel_rfl) ?_
   refine wk 19 (by kernel_rfl) ?_
   refine wv 20 (by kernel_rfl) (fun w1 c1 => (opt (v := .bool true) rfl rfl)) ?_
   exact leaf_q (sub_out 6 _ rfl (by kernel_rfl) ⟨(congrArg Value.bool (by rw [decide_eq_true h5] <;> rfl)), trivial⟩)
  ·skip
   refine wv 17 (by kernel_rfl) (fun w1 c1 => (om (v := .bool false) rfl)) ?_
   refine wv 18 (by kernel_rfl) (fun w1 c1 => (om (v := .int .i64 _) rfl)) ?_
   refine wv 19 (by kernel_rfl) (fun w1 c1 => (op_gtr rfl rfl)) ?_
   refine wv 20 (by kernel_rfl) (fun w1 c1 => (opf (v := .bool _) rfl rfl)) ?_
   exact leaf_q (sub_out 6 _ rfl (by kernel_rfl) ⟨(congrArg Value.bool (by rw [decide_eq_false h5] <;> rfl)), trivial⟩)
 refine xn ?_
 refine cm_condB (by kernel_rfl) rfl (fun h6 => ?_) (fun h6 => ?_)
 ·skip
  refine cq ?_
  refine cr ?_
  refine lv 6 (by kernel_rfl) (fun w1 c1 => (oa (v := .int .i64 _) rfl)) ?_
  refine ln ?_
  refine xn ?_
  refine cm_ret ?_
  refine xm_thenR ?_
  exact xm_retT rfl (by kernel_rfl) (show _ = Value.int .i64 _ from rfl) fun w1 c1 => ⟨(), rfl, hsub [] (by kernel_rfl) rfl w1 c1⟩
 ·skip
  refine cm_skip ?_
  refine xn ?_
  refine cq ?_
  refine cq ?_
  refine cr ?_
  refine lv 21 (by kernel_rfl) (fun w1 c1 => (om (v := .slice _ _ _) rfl)) ?_
  refine lv 22 (by kernel_rfl) (fun w1 c1 => (op_lenN rfl (by kernel_rfl) hz_p0.2.2)) ?_
  refine lv 23 (by kernel_rfl) (fun w1 c1 => (op_gtr rfl rfl)) ?_
  refine ln ?_
  refine xn ?_
  refine cm_cond (by kernel_rfl) rfl (fun h7 => ?_) (fun h7 => ?_)
  ·skip
   refine cq ?_
   refine cr ?_
   refine lv 6 (by kernel_rfl) (fun w1 c1 => (oa (v := .int .i64 _) rfl)) ?_
   refine ln ?_
   refine xn ?_
   refine cm_ret ?_
   refine xm_thenR ?_
   exact xm_retT rfl (by kernel_rfl) (show _ = Value.int .i64 _ from rfl) fun w1 c1 => ⟨(), rfl, hsub [] (by kernel_rfl) rfl w1 c1⟩
  ·skip
   refine cm_skip ?_
   refine xn ?_
   refine cm_join (σ := Unit) (ξ := Unit) (fun s44 u45 => [(0, .slice A_p0 n_p0 c_p0), (1, .int .i64 p1), (2, .slice A_p2 n_p2 c_p2)]) (fun s44 u45 => []) ?_ ?_
   ·skip
    refine cq ?_
    refine cr ?_
    refine lv 7 (by kernel_rfl) (fun w1 c1 => (oa (v := .int .i64 _) rfl)) ?_
    refine ln ?_
    refine xn ?_
    refine cm_block ?_
    refine cm_loop (σ := Int) (ξ := Unit) (fun s70 u71 => [(0, .slice A_p0 n_p0 c_p0), (1, .int .i64 p1), (2, .slice A_p2 n_p2 c_p2), (7, .int .i64 s70)]) (fun s70 u71 => []) () ?_ ?_ ?_
    ·exact (sc (by kernel_rfl) rfl (sc (by kernel_rfl) rfl (sc (by kernel_rfl) rfl (sc (by kernel_rfl) rfl sub_nil))))
    ·exact hsub [] (by kernel_rfl) rfl
    intro s70 u71
    refine cq ?_
    refine cq ?_
    refine cr ?_
    refine lv 24 (by kernel_rfl) (fun w1 c1 => (om (v := .int .i64 _) rfl)) ?_
    refine lv 25 (by kernel_rfl) (fun w1 c1 => (om (v := .slice _ _ _) rfl)) ?_
    refine lv 26 (by kernel_rfl) (fun w1 c1 => (op_lenN rfl (by kernel_rfl) hz_p0.2.2)) ?_
    refine lv 27 (by kernel_rfl) (fun w1 c1 => (op_lss rfl rfl)) ?_
    refine ln ?_
    refine xn ?_
    refine cm_cond (by kernel_rfl) rfl (fun h72 => ?_) (fun h72 => ?_)
    ·skip
     refine cm_skip ?_
     refine xn ?_
     refine cq ?_
     refine cm_block ?_
     refine cq ?_
     refine cq ?_
     refine cr ?_
     refine lv 30 (by kernel_rfl) (fun w1 c1 => (om (v := .slice _ _ _) rfl)) ?_
     refine lv 31 (by kernel_rfl) (fun w1 c1 => (om (v := .int .i64 _) rfl)) ?_
     refine lm_ck (fun h73 => ?_)
     refine lv 32 (by kernel_rfl) (fun w1 c1 => (op_indexA 2 rfl rfl (by kernel_rfl) ((hr_p0.old c1).addr h73.1 h73.2) hz_p0.2.2 h73.1 h73.2)) ?_
     refine lv 33 (by kernel_rfl) (fun w1 c1 => (op_field0 rfl (by kernel_rfl))) ?_
     refine lv 34 (by kernel_rfl) (fun w1 c1 => (ol (v := .string ((ix p0 s70).ID)) rfl (by kernel_rfl) ((hr_p0.old c1).cell0 h73.1 h73.2 rfl))) ?_
     refine lm_call 35 (V := (fun (r : Bool) (_u : Unit) => .bool r)) (HR := (fun (_r : Bool) (_u : Unit) => [])) (by kernel_rfl) (fun w1 => op_call (by kernel_rfl)) (fun r1 hr1 w1 c1 => m_recyclingref04_Valid_ok N w1 ((ix p0 s70).ID)  r1 hr1) ?_
     intro r74 u75
     refine lv 36 (by kernel_rfl) (fun w1 c1 => (op_not rfl)) ?_
     refine ln ?_
     refine xn ?_
     refine cm_condB (by kernel_rfl) rfl (fun h76 => ?_) (fun h76 => ?_)
     ·skip
      refine cq ?_
      refine cr ?_
      refine lv 6 (by kernel_rfl) (fun w1 c1 => (oa (v := .int .i64 _) rfl)) ?_
      refine ln ?_
      refine xn ?_
      refine cm_ret ?_
      refine xm_thenR ?_
      refine xm_inR ?_
      refine xm_thenR ?_
      refine xm_lret ?_
      refine xm_inR ?_
      refine xm_lret ?_
      exact xm_retT rfl (by kernel_rfl) (show _ = Value.int .i64 _ from rfl) fun w1 c1 => ⟨(), rfl, hsub [] (by kernel_rfl) rfl w1 c1⟩
     ·skip
      refine cm_skip ?_
      refine xn ?_
      refine cq ?_
      refine cm_ck (fun h77 => ?_)
      refine cm_ck (fun h78 => ?_)
      refine cm_cutE [(50, .bool ((decide ((ix p0 s70).Persons < 1)) || (decide (100 < (ix p0 s70).Persons))))] ?_ ?_
      ·skip
       refine wv 37 (by kernel_rfl) (fun w1 c1 => (om (v := .slice _ _ _) rfl)) ?_
       refine wv 38 (by kernel_rfl) (fun w1 c1 => (om (v := .int .i64 _) rfl)) ?_
       refine wv 39 (by kernel_rfl) (fun w1 c1 => (op_indexA 2 rfl rfl (by kernel_rfl) ((hr_p0.old c1).addr h77.1 h77.2) hz_p0.2.2 h77.1 h77.2)) ?_
       refine wv 40 (by kernel_rfl) (fun w1 c1 => (op_field (m := 1) rfl (by kernel_rfl))) ?_
       refine wv 41 (by kernel_rfl) (fun w1 c1 => (ol (v := .int .i64 ((ix p0 s70).Persons)) rfl (by kernel_rfl) ((hr_p0.old c1).cell (j := 1) h77.1 h77.2 rfl))) ?_
       refine wq_dec 42 (by kernel_rfl) (fun w1 c1 => (op_lss rfl rfl)) (fun h79 => ?_) (fun h79 => ?_)
       ·skip
        refine wv 43 (by kernel_rfl) (fun w1 c1 => (om (v := .bool true) rfl)) ?_
        refine wk 44 (by kernel_rfl) ?_
        refine wk 45 (by kernel_rfl) ?_
        refine wk 46 (by kernel_rfl) ?_
        refine wk 47 (by kernel_rfl) ?_
        refine wk 48 (by kernel_rfl) ?_
        refine wk 49 (by kernel_rfl) ?_
        refine wv 50 (by kernel_rfl) (fun w1 c1 => (opt (v := .bool true) rfl rfl)) ?_
        exact leaf_q (sub_out 14 _ rfl (by kernel_rfl) ⟨(congrArg Value.bool (by rw [decide_eq_true h79] <;> rfl)), trivial⟩)
       ·skip
        refine wv 43 (by kernel_rfl) (fun w1 c1 => (om (v := .bool false) rfl)) ?_
        refine wv 44 (by kernel_rfl) (fun w1 c1 => (om (v := .slice _ _ _) rfl)) ?_
        refine wv 45 (by kernel_rfl) (fun w1 c1 => (om (v := .int .i64 _) rfl)) ?_
        refine wv 46 (by kernel_rfl) (fun w1 c1 => (op_indexA 2 rfl rfl (by kernel_rfl) ((hr_p0.old c1).addr (h78 (by rw [decide_eq_false h79] <;> rfl)).1 (h78 (by rw [decide_eq_false h79] <;> rfl)).2) hz_p0.2.2 (h78 (by rw [decide_eq_false h79] <;> rfl)).1 (h78 (by rw [decide_eq_false h79] <;> rfl)).2)) ?_
        refine wv 47 (by kernel_rfl) (fun w1 c1 => (op_field (m := 1) rfl (by kernel_rfl))) ?_
        refine wv 48 (by kernel_rfl) (fun w1 c1 => (ol (v := .int .i64 ((ix p0 s70).Persons)) rfl (by kernel_rfl) ((hr_p0.old c1).cell (j := 1) (h78 (by rw [decide_eq_false h79] <;> rfl)).1 (h78 (by rw [decide_eq_false h79] <;> rfl)).2 rfl))) ?_
        refine wv 49 (by kernel_rfl) (fun w1 c1 => (op_gtr rfl rfl)) ?_
        refine wv 50 (by kernel_rfl) (fun w1 c1 => (opf (v := .bool _) rfl rfl)) ?_
        exact leaf_q (sub_out 14 _ rfl (by kernel_rfl) ⟨(congrArg Value.bool (by rw [decide_eq_false h79] <;> rfl)), trivial⟩)
      refine xn ?_
      refine cm_condB (by kernel_rfl) rfl (fun h80 => ?_) (fun h80 => ?_)
      ·skip
       refine cq ?_
       refine cr ?_
       refine lv 6 (by kernel_rfl) (fun w1 c1 => (oa (v := .int .i64 _) rfl)) ?_
       refine ln ?_
       refine xn ?_
       refine cm_ret ?_
       refine xm_inR ?_
       refine xm_thenR ?_
       refine xm_lret ?_
       refine xm_inR ?_
       refine xm_lret ?_
       exact xm_retT rfl (by kernel_rfl) (show _ = Value.int .i64 _ from rfl) fun w1 c1 => ⟨(), rfl, hsub [] (by kernel_rfl) rfl w1 c1⟩
      ·skip
       refine cm_skip ?_
       refine xm_inN ?_
       refine xn ?_
       refine cr ?_
       refine lv 28 (by kernel_rfl) (fun w1 c1 => (om (v := .int .i64 _) rfl)) ?_
       refine lm_ck (fun h81 => ?_)
       refine lv 29 (by kernel_rfl) (fun w1 c1 => (op_add rfl rfl h81)) ?_
       refine lv 7 (by kernel_rfl) (fun w1 c1 => (oa (v := .int .i64 _) rfl)) ?_
       refine ln ?_
       exact xm_lnext () (sc (by kernel_rfl) rfl (sc (by kernel_rfl) rfl (sc (by kernel_rfl) rfl (sc (by kernel_rfl) rfl sub_nil)))) (hsub [] (by kernel_rfl) rfl)
    ·skip
     refine cm_exit ?_
     refine xm_thenE ?_
     refine xm_lexit ?_
     refine xm_here ?_
     exact xm_lnext () (sc (by kernel_rfl) rfl (sc (by kernel_rfl) rfl (sc (by kernel_rfl) rfl sub_nil))) (hsub [] (by kernel_rfl) rfl)
   intro s44 u45
   refine cm_join (σ := Unit) (ξ := Unit) (fun s226 u227 => [(0, .slice A_p0 n_p0 c_p0), (1, .int .i64 p1), (2, .slice A_p2 n_p2 c_p2)]) (fun s226 u227 => []) ?_ ?_
   ·skip
    refine cq ?_
    refine cr ?_
    refine lv 8 (by kernel_rfl) (fun w1 c1 => (oa (v := .int .i64 _) rfl)) ?_
    refine ln ?_
    refine xn ?_
    refine cm_block ?_
    refine cm_loop (σ := Int) (ξ := Unit) (fun s324 u325 => [(0, .slice A_p0 n_p0 c_p0), (1, .int .i64 p1), (2, .slice A_p2 n_p2 c_p2), (8, .int .i64 s324)]) (fun s324 u325 => []) () ?_ ?_ ?_
    ·exact (sc (by kernel_rfl) rfl (sc (by kernel_rfl) rfl (sc (by kernel_rfl) rfl (sc (by kernel_rfl) rfl sub_nil))))
    ·exact hsub [] (by kernel_rfl) rfl
    intro s324 u325
    refine cq ?_
    refine cq ?_
    refine cr ?_
    refine lv 51 (by kernel_rfl) (fun w1 c1 => (om (v := .int .i64 _) rfl)) ?_
    refine lv 52 (by kernel_rfl) (fun w1 c1 => (om (v := .slice _ _ _) rfl)) ?_
    refine lv 53 (by kernel_rfl) (fun w1 c1 => (op_lenN rfl (by kernel_rfl) hz_p0.2.2)) ?_
    refine lv 54 (by kernel_rfl) (fun w1 c1 => (op_lss rfl rfl)) ?_
    refine ln ?_
    refine xn ?_
    refine cm_cond (by kernel_rfl) rfl (fun h326 => ?_) (fun h326 => ?_)
    ·skip
     refine cm_skip ?_
     refine xn ?_
     refine cm_join (σ := Unit) (ξ := Unit) (fun s348 u349 => [(0, .slice A_p0 n_p0 c_p0), (1, .int .i64 p1), (2, .slice A_p2 n_p2 c_p2), (8, .int .i64 s324)]) (fun s348 u349 => []) ?_ ?_
     ·skip
      refine cm_block ?_
      refine cq ?_
      refine cr ?_
      refine lv 9 (by kernel_rfl) (fun w1 c1 => (oa (v := .int .i64 _) rfl)) ?_
      refine ln ?_
      refine xn ?_
      refine cm_block ?_
      refine cm_loop (σ := Int) (ξ := Unit) (fun s364 u365 => [(0, .slice A_p0 n_p0 c_p0), (1, .int .i64 p1), (2, .slice A_p2 n_p2 c_p2), (8, .int .i64 s324), (9, .int .i64 s364)]) (fun s364 u365 => []) () ?_ ?_ ?_
      ·exact (sc (by kernel_rfl) rfl (sc (by kernel_rfl) rfl (sc (by kernel_rfl) rfl (sc (by kernel_rfl) rfl (sc (by kernel_rfl) rfl sub_nil)))))
      ·exact hsub [] (by kernel_rfl) rfl
      intro s364 u365
      refine cq ?_
      refine cq ?_
      refine cr ?_
      refine lv 57 (by kernel_rfl) (fun w1 c1 => (om (v := .int .i64 _) rfl)) ?_
      refine lv 58 (by kernel_rfl) (fun w1 c1 => (om (v := .int .i64 _) rfl)) ?_
      refine lv 59 (by kernel_rfl) (fun w1 c1 => (op_lss rfl rfl)) ?_
      refine ln ?_
      refine xn ?_
      refine cm_cond (by kernel_rfl) rfl (fun h366 => ?_) (fun h366 => ?_)
      ·skip
       refine cm_skip ?_
       refine xn ?_
       refine cq ?_
       refine cm_block ?_
       refine cq ?_
       refine cm_ck (fun h367 => ?_)
       refine cm_ck (fun h368 => ?_)
       refine cm_drawn [(72, .bool (decide (((ix p0 s324).ID) = ((ix p0 s364).ID))))] (by kernel_rfl) (by kernel_rfl) ?_ ?_
       ·skip
        refine wv 62 (by kernel_rfl) (fun w1 c1 => (om (v := .slice _ _ _) rfl)) ?_
        refine wv 63 (by kernel_rfl) (fun w1 c1 => (om (v := .int .i64 _) rfl)) ?_
        refine wv 64 (by kernel_rfl) (fun w1 c1 => (op_indexA 2 rfl rfl (by kernel_rfl) ((hr_p0.old c1).addr h367.1 h367.2) hz_p0.2.2 h367.1 h367.2)) ?_
        refine wv 65 (by kernel_rfl) (fun w1 c1 => (op_field0 rfl (by kernel_rfl))) ?_
        refine wv 66 (by kernel_rfl) (fun w1 c1 => (ol (v := .string ((ix p0 s324).ID)) rfl (by kernel_rfl) ((hr_p0.old c1).cell0 h367.1 h367.2 rfl))) ?_
        refine wv 67 (by kernel_rfl) (fun w1 c1 => (om (v := .slice _ _ _) rfl)) ?_
        refine wv 68 (by kernel_rfl) (fun w1 c1 => (om (v := .int .i64 _) rfl)) ?_
        refine wv 69 (by kernel_rfl) (fun w1 c1 => (op_indexA 2 rfl rfl (by kernel_rfl) ((hr_p0.old c1).addr h368.1 h368.2) hz_p0.2.2 h368.1 h368.2)) ?_
        refine wv 70 (by kernel_rfl) (fun w1 c1 => (op_field0 rfl (by kernel_rfl))) ?_
        refine wv 71 (by kernel_rfl) (fun w1 c1 => (ol (v := .string ((ix p0 s364).ID)) rfl (by kernel_rfl) ((hr_p0.old c1).cell0 h368.1 h368.2 rfl))) ?_
        refine wv 72 (by kernel_rfl) (fun w1 c1 => (op_eqlS rfl rfl)) ?_
        exact leaf_q (sub_out 11 _ rfl (by kernel_rfl) ⟨rfl, trivial⟩)
       refine xn ?_
       refine cm_cond (by kernel_rfl) rfl (fun h369 => ?_) (fun h369 => ?_)
       ·skip
        refine cq ?_
        refine cr ?_
        refine lv 6 (by kernel_rfl) (fun w1 c1 => (oa (v := .int .i64 _) rfl)) ?_
        refine ln ?_
        refine xn ?_
        refine cm_ret ?_
        refine xm_inR ?_
        refine xm_thenR ?_
        refine xm_lret ?_
        refine xm_inR ?_
        refine xm_inR ?_
        refine xm_lret ?_
        refine xm_lret ?_
        refine xm_inR ?_
        refine xm_lret ?_
        exact xm_retT rfl (by kernel_rfl) (show _ = Value.int .i64 _ from rfl) fun w1 c1 => ⟨(), rfl, hsub [] (by kernel_rfl) rfl w1 c1⟩
       ·skip
        refine cm_skip ?_
        refine xm_inN ?_
        refine xn ?_
        refine cr ?_
        refine lv 60 (by kernel_rfl) (fun w1 c1 => (om (v := .int .i64 _) rfl)) ?_
        refine lm_ck (fun h370 => ?_)
        refine lv 61 (by kernel_rfl) (fun w1 c1 => (op_add rfl rfl h370)) ?_
        refine lv 9 (by kernel_rfl) (fun w1 c1 => (oa (v := .int .i64 _) rfl)) ?_
        refine ln ?_
        exact xm_lnext () (sc (by kernel_rfl) rfl (sc (by kernel_rfl) rfl (sc (by kernel_rfl) rfl (sc (by kernel_rfl) rfl (sc (by kernel_rfl) rfl sub_nil))))) (hsub [] (by kernel_rfl) rfl)
      ·skip
       refine cm_exit ?_
       refine xm_thenE ?_
       refine xm_lexit ?_
       refine xm_here ?_
       refine xm_inN ?_
       exact xm_lnext () (sc (by kernel_rfl) rfl (sc (by kernel_rfl) rfl (sc (by kernel_rfl) rfl (sc (by kernel_rfl) rfl sub_nil)))) (hsub [] (by kernel_rfl) rfl)
     intro s348 u349
     refine cr ?_
     refine lv 55 (by kernel_rfl) (fun w1 c1 => (om (v := .int .i64 _) rfl)) ?_
     refine lm_ck (fun h371 => ?_)
     refine lv 56 (by kernel_rfl) (fun w1 c1 => (op_add rfl rfl h371)) ?_
     refine lv 8 (by kernel_rfl) (fun w1 c1 => (oa (v := .int .i64 _) rfl)) ?_
     refine ln ?_
     exact xm_lnext () (sc (by kernel_rfl) rfl (sc (by kernel_rfl) rfl (sc (by kernel_rfl) rfl (sc (by kernel_rfl) rfl sub_nil)))) (hsub [] (by kernel_rfl) rfl)
    ·skip
     refine cm_exit ?_
     refine xm_thenE ?_
     refine xm_lexit ?_
     refine xm_here ?_
     exact xm_lnext () (sc (by kernel_rfl) rfl (sc (by kernel_rfl) rfl (sc (by kernel_rfl) rfl sub_nil))) (hsub [] (by kernel_rfl) rfl)
   intro s226 u227
   refine cq ?_
   refine cq ?_
   refine cr ?_
   refine lv 73 (by kernel_rfl) (fun w1 c1 => (om (v := .slice _ _ _) rfl)) ?_
   refine lv 74 (by kernel_rfl) (fun w1 c1 => (op_lenN rfl (by kernel_rfl) hz_p2.2.2)) ?_
   refine lv 75 (by kernel_rfl) (fun w1 c1 => (op_gtr rfl rfl)) ?_
   refine ln ?_
   refine xn ?_
   refine cm_cond (by kernel_rfl) rfl (fun h372 => ?_) (fun h372 => ?_)
   ·skip
    refine cq ?_
    refine cr ?_
    refine lv 6 (by kernel_rfl) (fun w1 c1 => (oa (v := .int .i64 _) rfl)) ?_
    refine ln ?_
    refine xn ?_
    refine cm_ret ?_
    refine xm_thenR ?_
    exact xm_retT rfl (by kernel_rfl) (show _ = Value.int .i64 _ from rfl) fun w1 c1 => ⟨(), rfl, hsub [] (by kernel_rfl) rfl w1 c1⟩
   ·skip
    refine cm_skip ?_
    refine xn ?_
    refine cm_join (σ := Unit) (ξ := Unit) (fun s421 u422 => [(2, .slice A_p2 n_p2 c_p2)]) (fun s421 u422 => []) ?_ ?_
    ·skip
     refine cq ?_
     refine cr ?_
     refine lv 10 (by kernel_rfl) (fun w1 c1 => (oa (v := .int .i64 _) rfl)) ?_
     refine ln ?_
     refine xn ?_
     refine cm_block ?_
     refine cm_loop (σ := Int) (ξ := Unit) (fun s455 u456 => [(0, .slice A_p0 n_p0 c_p0), (1, .int .i64 p1), (2, .slice A_p2 n_p2 c_p2), (10, .int .i64 s455)]) (fun s455 u456 => []) () ?_ ?_ ?_
     ·exact (sc (by kernel_rfl) rfl (sc (by kernel_rfl) rfl (sc (by kernel_rfl) rfl (sc (by kernel_rfl) rfl sub_nil))))
     ·exact hsub [] (by kernel_rfl) rfl
     intro s455 u456
     refine cq ?_
     refine cq ?_
     refine cr ?_
     refine lv 76 (by kernel_rfl) (fun w1 c1 => (om (v := .int .i64 _) rfl)) ?_
     refine lv 77 (by kernel_rfl) (fun w1 c1 => (om (v := .slice _ _ _) rfl)) ?_
     refine lv 78 (by kernel_rfl) (fun w1 c1 => (op_lenN rfl (by kernel_rfl) hz_p2.2.2)) ?_
     refine lv 79 (by kernel_rfl) (fun w1 c1 => (op_lss rfl rfl)) ?_
     refine ln ?_
     refine xn ?_
     refine cm_cond (by kernel_rfl) rfl (fun h457 => ?_) (fun h457 => ?_)
     ·skip
      refine cm_skip ?_
      refine xn ?_
      refine cq ?_
      refine cm_block ?_
      refine cq ?_
      refine cq ?_
      refine cm_ck (fun h458 => ?_)
      refine cm_ck (fun h459 => ?_)
      refine cm_ck (fun h460 => ?_)
      refine cm_ck (fun h461 => ?_)
      refine cm_cutE [(114, .bool ((((decide ((ix p2 s455).Container < 0)) || (decide (p1 ≤ (ix p2 s455).Container))) || (decide ((ix p2 s455).Household < 0))) || (decide ((List.length p0 : Int) ≤ (ix p2 s455).Household))))] ?_ ?_
      ·skip
       refine wv 82 (by kernel_rfl) (fun w1 c1 => (om (v := .slice _ _ _) rfl)) ?_
       refine wv 83 (by kernel_rfl) (fun w1 c1 => (om (v := .int .i64 _) rfl)) ?_
       refine wv 84 (by kernel_rfl) (fun w1 c1 => (op_indexA 4 rfl rfl (by kernel_rfl) ((hr_p2.old c1).addr h458.1 h458.2) hz_p2.2.2 h458.1 h458.2)) ?_
       refine wv 85 (by kernel_rfl) (fun w1 c1 => (op_field0 rfl (by kernel_rfl))) ?_
       refine wv 86 (by kernel_rfl) (fun w1 c1 => (ol (v := .int .i64 ((ix p2 s455).Container)) rfl (by kernel_rfl) ((hr_p2.old c1).cell0 h458.1 h458.2 rfl))) ?_
       refine wq_dec 87 (by kernel_rfl) (fun w1 c1 => (op_lss rfl rfl)) (fun h462 => ?_) (fun h462 => ?_)
       ·skip
        refine wv 88 (by kernel_rfl) (fun w1 c1 => (om (v := .bool true) rfl)) ?_
        refine wk 89 (by kernel_rfl) ?_
        refine wk 90 (by kernel_rfl) ?_
        refine wk 91 (by kernel_rfl) ?_
        refine wk 92 (by kernel_rfl) ?_
        refine wk 93 (by kernel_rfl) ?_
        refine wk 94 (by kernel_rfl) ?_
        refine wk 95 (by kernel_rfl) ?_
        refine wv 96 (by kernel_rfl) (fun w1 c1 => (opt (v := .bool true) rfl rfl)) ?_
        refine wv 97 (by kernel_rfl) (fun w1 c1 => (om (v := .bool true) rfl)) ?_
        refine wk 98 (by kernel_rfl) ?_
        refine wk 99 (by kernel_rfl) ?_
        refine wk 100 (by kernel_rfl) ?_
        refine wk 101 (by kernel_rfl) ?_
        refine wk 102 (by kernel_rfl) ?_
        refine wk 103 (by kernel_rfl) ?_
        refine wv 104 (by kernel_rfl) (fun w1 c1 => (opt (v := .bool true) rfl rfl)) ?_
        refine wv 105 (by kernel_rfl) (fun w1 c1 => (om (v := .bool true) rfl)) ?_
        refine wk 106 (by kernel_rfl) ?_
        refine wk 107 (by kernel_rfl) ?_
        refine wk 108 (by kernel_rfl) ?_
        refine wk 109 (by kernel_rfl) ?_
        refine wk 110 (by kernel_rfl) ?_
        refine wk 111 (by kernel_rfl) ?_
        refine wk 112 (by kernel_rfl) ?_
        refine wk 113 (by kernel_rfl) ?_
        refine wv 114 (by kernel_rfl) (fun w1 c1 => (opt (v := .bool true) rfl rfl)) ?_
        exact leaf_q (sub_out 33 _ rfl (by kernel_rfl) ⟨(congrArg Value.bool (by rw [decide_eq_true h462] <;> rfl)), trivial⟩)
       ·skip
        refine wv 88 (by kernel_rfl) (fun w1 c1 => (om (v := .bool false) rfl)) ?_
        refine wv 89 (by kernel_rfl) (fun w1 c1 => (om (v := .slice _ _ _) rfl)) ?_
        refine wv 90 (by kernel_rfl) (fun w1 c1 => (om (v := .int .i64 _) rfl)) ?_
        refine wv 91 (by kernel_rfl) (fun w1 c1 => (op_indexA 4 rfl rfl (by kernel_rfl) ((hr_p2.old c1).addr (h459 (by rw [decide_eq_false h462] <;> rfl)).1 (h459 (by rw [decide_eq_false h462] <;> rfl)).2) hz_p2.2.2 (h459 (by rw [decide_eq_false h462] <;> rfl)).1 (h459 (by rw [decide_eq_false h462] <;> rfl)).2)) ?_
        refine wv 92 (by kernel_rfl) (fun w1 c1 => (op_field0 rfl (by kernel_rfl))) ?_
        refine wv 93 (by kernel_rfl) (fun w1 c1 => (ol (v := .int .i64 ((ix p2 s455).Container)) rfl (by kernel_rfl) ((hr_p2.old c1).cell0 (h459 (by rw [decide_eq_false h462] <;> rfl)).1 (h459 (by rw [decide_eq_false h462] <;> rfl)).2 rfl))) ?_
        refine wv 94 (by kernel_rfl) (fun w1 c1 => (om (v := .int .i64 _) rfl)) ?_
        refine wq_dec 95 (by kernel_rfl) (fun w1 c1 => (op_geq rfl rfl)) (fun h463 => ?_) (fun h463 => ?_)
        ·skip
         refine wv 96 (by kernel_rfl) (fun w1 c1 => (opf (v := .bool true) rfl rfl)) ?_
         refine wv 97 (by kernel_rfl) (fun w1 c1 => (om (v := .bool true) rfl)) ?_
         refine wk 98 (by kernel_rfl) ?_
         refine wk 99 (by kernel_rfl) ?_
         refine wk 100 (by kernel_rfl) ?_
         refine wk 101 (by kernel_rfl) ?_
         refine wk 102 (by kernel_rfl) ?_
         refine wk 103 (by kernel_rfl) ?_
         refine wv 104 (by kernel_rfl) (fun w1 c1 => (opt (v := .bool true) rfl rfl)) ?_
         refine wv 105 (by kernel_rfl) (fun w1 c1 => (om (v := .bool true) rfl)) ?_
         refine wk 106 (by kernel_rfl) ?_
         refine wk 107 (by kernel_rfl) ?_
         refine wk 108 (by kernel_rfl) ?_
         refine wk 109 (by kernel_rfl) ?_
         refine wk 110 (by kernel_rfl) ?_
         refine wk 111 (by kernel_rfl) ?_
         refine wk 112 (by kernel_rfl) ?_
         refine wk 113 (by kernel_rfl) ?_
         refine wv 114 (by kernel_rfl) (fun w1 c1 => (opt (v := .bool true) rfl rfl)) ?_
         exact leaf_q (sub_out 33 _ rfl (by kernel_rfl) ⟨(congrArg Value.bool (by rw [decide_eq_false h462, decide_eq_true h463] <;> rfl)), trivial⟩)
        ·skip
         refine wv 96 (by kernel_rfl) (fun w1 c1 => (opf (v := .bool false) rfl rfl)) ?_
         refine wv 97 (by kernel_rfl) (fun w1 c1 => (om (v := .bool false) rfl)) ?_
         refine wv 98 (by kernel_rfl) (fun w1 c1 => (om (v := .slice _ _ _) rfl)) ?_
         refine wv 99 (by kernel_rfl) (fun w1 c1 => (om (v := .int .i64 _) rfl)) ?_
         refine wv 100 (by kernel_rfl) (fun w1 c1 => (op_indexA 4 rfl rfl (by kernel_rfl) ((hr_p2.old c1).addr (h460 (by rw [decide_eq_false h462, decide_eq_false h463] <;> rfl)).1 (h460 (by rw [decide_eq_false h462, decide_eq_false h463] <;> rfl)).2) hz_p2.2.2 (h460 (by rw [decide_eq_false h462, decide_eq_false h463] <;> rfl)).1 (h460 (by rw [decide_eq_false h462, decide_eq_false h463] <;> rfl)).2)) ?_
         refine wv 101 (by kernel_rfl) (fun w1 c1 => (op_field (m := 1) rfl (by kernel_rfl))) ?_
         refine wv 102 (by kernel_rfl) (fun w1 c1 => (ol (v := .int .i64 ((ix p2 s455).Household)) rfl (by kernel_rfl) ((hr_p2.old c1).cell (j := 1) (h460 (by rw [decide_eq_false h462, decide_eq_false h463] <;> rfl)).1 (h460 (by rw [decide_eq_false h462, decide_eq_false h463] <;> rfl)).2 rfl))) ?_
         refine wq_dec 103 (by kernel_rfl) (fun w1 c1 => (op_lss rfl rfl)) (fun h464 => ?_) (fun h464 => ?_)
         ·skip
          refine wv 104 (by kernel_rfl) (fun w1 c1 => (opf (v := .bool true) rfl rfl)) ?_
          refine wv 105 (by kernel_rfl) (fun w1 c1 => (om (v := .bool true) rfl)) ?_
          refine wk 106 (by kernel_rfl) ?_
          refine wk 107 (by kernel_rfl) ?_
          refine wk 108 (by kernel_rfl) ?_
          refine wk 109 (by kernel_rfl) ?_
          refine wk 110 (by kernel_rfl) ?_
          refine wk 111 (by kernel_rfl) ?_
          refine wk 112 (by kernel_rfl) ?_
          refine wk 113 (by kernel_rfl) ?_
          refine wv 114 (by kernel_rfl) (fun w1 c1 => (opt (v := .bool true) rfl rfl)) ?_
          exact leaf_q (sub_out 33 _ rfl (by kernel_rfl) ⟨(congrArg Value.bool (by rw [decide_eq_false h462, decide_eq_false h463, decide_eq_true h464] <;> rfl)), trivial⟩)
         ·skip
          refine wv 104 (by kernel_rfl) (fun w1 c1 => (opf (v := .bool false) rfl rfl)) ?_
          refine wv 105 (by kernel_rfl) (fun w1 c1 => (om (v := .bool false) rfl)) ?_
          refine wv 106 (by kernel_rfl) (fun w1 c1 => (om (v := .slice _ _ _) rfl)) ?_
          refine wv 107 (by kernel_rfl) (fun w1 c1 => (om (v := .int .i64 _) rfl)) ?_
          refine wv 108 (by kernel_rfl) (fun w1 c1 => (op_indexA 4 rfl rfl (by kernel_rfl) ((hr_p2.old c1).addr (h461 (by rw [decide_eq_false h462, decide_eq_false h463, decide_eq_false h464] <;> rfl)).1 (h461 (by rw [decide_eq_false h462, decide_eq_false h463, decide_eq_false h464] <;> rfl)).2) hz_p2.2.2 (h461 (by rw [decide_eq_false h462, decide_eq_false h463, decide_eq_false h464] <;> rfl)).1 (h461 (by rw [decide_eq_false h462, decide_eq_false h463, decide_eq_false h464] <;> rfl)).2)) ?_
          refine wv 109 (by kernel_rfl) (fun w1 c1 => (op_field (m := 1) rfl (by kernel_rfl))) ?_
          refine wv 110 (by kernel_rfl) (fun w1 c1 => (ol (v := .int .i64 ((ix p2 s455).Household)) rfl (by kernel_rfl) ((hr_p2.old c1).cell (j := 1) (h461 (by rw [decide_eq_false h462, decide_eq_false h463, decide_eq_false h464] <;> rfl)).1 (h461 (by rw [decide_eq_false h462, decide_eq_false h463, decide_eq_false h464] <;> rfl)).2 rfl))) ?_
          refine wv 111 (by kernel_rfl) (fun w1 c1 => (om (v := .slice _ _ _) rfl)) ?_
          refine wv 112 (by kernel_rfl) (fun w1 c1 => (op_lenN rfl (by kernel_rfl) hz_p0.2.2)) ?_
          refine wv 113 (by kernel_rfl) (fun w1 c1 => (op_geq rfl rfl)) ?_
          refine wv 114 (by kernel_rfl) (fun w1 c1 => (opf (v := .bool _) rfl rfl)) ?_
          exact leaf_q (sub_out 33 _ rfl (by kernel_rfl) ⟨(congrArg Value.bool (by rw [decide_eq_false h462, decide_eq_false h463, decide_eq_false h464] <;> rfl)), trivial⟩)
      refine xn ?_
      refine cm_condB (by kernel_rfl) rfl (fun h465 => ?_) (fun h465 => ?_)
      ·skip
       refine cq ?_
       refine cr ?_
       refine lv 6 (by kernel_rfl) (fun w1 c1 => (oa (v := .int .i64 _) rfl)) ?_
       refine ln ?_
       refine xn ?_
       refine cm_ret ?_
       refine xm_thenR ?_
       refine xm_inR ?_
       refine xm_thenR ?_
       refine xm_lret ?_
       refine xm_inR ?_
       refine xm_lret ?_
       exact xm_retT rfl (by kernel_rfl) (show _ = Value.int .i64 _ from rfl) fun w1 c1 => ⟨(), rfl, hsub [] (by kernel_rfl) rfl w1 c1⟩
      ·skip
       refine cm_skip ?_
       refine xn ?_
       refine cq ?_
       refine cr ?_
       refine lv 115 (by kernel_rfl) (fun w1 c1 => (om (v := .slice _ _ _) rfl)) ?_
       refine lv 116 (by kernel_rfl) (fun w1 c1 => (om (v := .int .i64 _) rfl)) ?_
       refine lm_ck (fun h466 => ?_)
       refine lv 117 (by kernel_rfl) (fun w1 c1 => (op_indexA 4 rfl rfl (by kernel_rfl) ((hr_p2.old c1).addr h466.1 h466.2) hz_p2.2.2 h466.1 h466.2)) ?_
       refine lv 118 (by kernel_rfl) (fun w1 c1 => (op_field (m := 2) rfl (by kernel_rfl))) ?_
       refine lv 119 (by kernel_rfl) (fun w1 c1 => (op_loadR [.int .i64 ((ix p2 s455).When.From), .int .i64 ((ix p2 s455).When.To)] rfl (by kernel_rfl) ((hr_p2.old c1).part (o := 2) h466.1 h466.2 rfl))) ?_
       refine lm_call 120 (V := (fun (r : Bool) (_u : Unit) => .bool r)) (HR := (fun (_r : Bool) (_u : Unit) => [])) (by kernel_rfl) (fun w1 => op_call (by kernel_rfl)) (fun r1 hr1 w1 c1 => m_recyclingref14_Window_ok N w1 ((ix p2 s455).When)  r1 hr1) ?_
       intro r467 u468
       refine lv 121 (by kernel_rfl) (fun w1 c1 => (op_not rfl)) ?_
       refine ln ?_
       refine xn ?_
       refine cm_condB (by kernel_rfl) rfl (fun h469 => ?_) (fun h469 => ?_)
       ·skip
        refine cq ?_
        refine cr ?_
        refine lv 6 (by kernel_rfl) (fun w1 c1 => (oa (v := .int .i64 _) rfl)) ?_
        refine ln ?_
        refine xn ?_
        refine cm_ret ?_
        refine xm_inR ?_
        refine xm_thenR ?_
        refine xm_lret ?_
        refine xm_inR ?_
        refine xm_lret ?_
        exact xm_retT rfl (by kernel_rfl) (show _ = Value.int .i64 _ from rfl) fun w1 c1 => ⟨(), rfl, hsub [] (by kernel_rfl) rfl w1 c1⟩
       ·skip
        refine cm_skip ?_
        refine xm_inN ?_
        refine xn ?_
        refine cr ?_
        refine lv 80 (by kernel_rfl) (fun w1 c1 => (om (v := .int .i64 _) rfl)) ?_
        refine lm_ck (fun h470 => ?_)
        refine lv 81 (by kernel_rfl) (fun w1 c1 => (op_add rfl rfl h470)) ?_
        refine lv 10 (by kernel_rfl) (fun w1 c1 => (oa (v := .int .i64 _) rfl)) ?_
        refine ln ?_
        exact xm_lnext () (sc (by kernel_rfl) rfl (sc (by kernel_rfl) rfl (sc (by kernel_rfl) rfl (sc (by kernel_rfl) rfl sub_nil)))) (hsub [] (by kernel_rfl) rfl)
     ·skip
      refine cm_exit ?_
      refine xm_thenE ?_
      refine xm_lexit ?_
      refine xm_here ?_
      exact xm_lnext () (sc (by kernel_rfl) rfl sub_nil) (hsub [] (by kernel_rfl) rfl)
    intro s421 u422
    refine cm_join (σ := Unit) (ξ := Unit) (fun s1443 u1444 => []) (fun s1443 u1444 => []) ?_ ?_
    ·skip
     refine cq ?_
     refine cr ?_
     refine lv 11 (by kernel_rfl) (fun w1 c1 => (oa (v := .int .i64 _) rfl)) ?_
     refine ln ?_
     refine xn ?_
     refine cm_block ?_
     refine cm_loop (σ := Int) (ξ := Unit) (fun s2093 u2094 => [(2, .slice A_p2 n_p2 c_p2), (11, .int .i64 s2093)]) (fun s2093 u2094 => []) () ?_ ?_ ?_
     ·exact (sc (by kernel_rfl) rfl (sc (by kernel_rfl) rfl sub_nil))
     ·exact hsub [] (by kernel_rfl) rfl
     intro s2093 u2094
     refine cq ?_
     refine cq ?_
     refine cr ?_
     refine lv 122 (by kernel_rfl) (fun w1 c1 => (om (v := .int .i64 _) rfl)) ?_
     refine lv 123 (by kernel_rfl) (fun w1 c1 => (om (v := .slice _ _ _) rfl)) ?_
     refine lv 124 (by kernel_rfl) (fun w1 c1 => (op_lenN rfl (by kernel_rfl) hz_p2.2.2)) ?_
     refine lv 125 (by kernel_rfl) (fun w1 c1 => (op_lss rfl rfl)) ?_
     refine ln ?_
     refine xn ?_
     refine cm_cond (by kernel_rfl) rfl (fun h2095 => ?_) (fun h2095 => ?_)
     ·skip
      refine cm_skip ?_
      refine xn ?_
      refine cm_join (σ := Unit) (ξ := Unit) (fun s2255 u2256 => [(2, .slice A_p2 n_p2 c_p2), (11, .int .i64 s2093)]) (fun s2255 u2256 => []) ?_ ?_
      ·skip
       refine cm_block ?_
       refine cq ?_
       refine cr ?_
       refine lv 12 (by kernel_rfl) (fun w1 c1 => (oa (v := .int .i64 _) rfl)) ?_
       refine ln ?_
       refine xn ?_
       refine cm_block ?_
       refine cm_loop (σ := Int) (ξ := Unit) (fun s2363 u2364 => [(2, .slice A_p2 n_p2 c_p2), (11, .int .i64 s2093), (12, .int .i64 s2363)]) (fun s2363 u2364 => []) () ?_ ?_ ?_
       ·exact (sc (by kernel_rfl) rfl (sc (by kernel_rfl) rfl (sc (by kernel_rfl) rfl sub_nil)))
       ·exact hsub [] (by kernel_rfl) rfl
       intro s2363 u2364
       refine cq ?_
       refine cq ?_
       refine cr ?_
       refine lv 128 (by kernel_rfl) (fun w1 c1 => (om (v := .int .i64 _) rfl)) ?_
       refine lv 129 (by kernel_rfl) (fun w1 c1 => (om (v := .int .i64 _) rfl)) ?_
       refine lv 130 (by kernel_rfl) (fun w1 c1 => (op_lss rfl rfl)) ?_
       refine ln ?_
       refine xn ?_
       refine cm_cond (by kernel_rfl) rfl (fun h2365 => ?_) (fun h2365 => ?_)
       ·skip
        refine cm_skip ?_
        refine xn ?_
        refine cq ?_
        refine cm_block ?_
        refine cq ?_
        refine cm_ck (fun h2366 => ?_)
        refine cm_ck (fun h2367 => ?_)
        refine cm_bind fun r2368 h2369 => ?_
        refine cm_held (ξ := Unit) (fun u2391 => [(2, .slice A_p2 n_p2 c_p2), (11, .int .i64 s2093), (12, .int .i64 s2363), (14, .bool r2368.2)]) (fun u2391 => []) [] 17 (by kernel_rfl) (by rfl) (hsub [] (by kernel_rfl) (by rfl)) ?_ ?_
        ·intro w2393 c2394
         refine wh_take 0 134 rfl (by kernel_rfl) (by kernel_rfl) (fun w2 c2 => (om (v := .slice _ _ _) rfl)) (hsub [] (by kernel_rfl) rfl _ c2394) ?_
         refine wh_take 1 135 rfl (by kernel_rfl) (by kernel_rfl) (fun w2 c2 => (om (v := .int .i64 _) rfl)) (hsub [] (by kernel_rfl) rfl _ c2394) ?_
         refine wh_take 2 136 rfl (by kernel_rfl) (by kernel_rfl) (fun w2 c2 => (op_indexA 4 rfl rfl (by kernel_rfl) ((hr_p2.old c2).addr h2366.1 h2366.2) hz_p2.2.2 h2366.1 h2366.2)) (hsub [] (by kernel_rfl) rfl _ c2394) ?_
         refine wh_take 3 137 rfl (by kernel_rfl) (by kernel_rfl) (fun w2 c2 => (op_field (m := 2) rfl (by kernel_rfl))) (hsub [] (by kernel_rfl) rfl _ c2394) ?_
         refine wh_take 4 138 rfl (by kernel_rfl) (by kernel_rfl) (fun w2 c2 => (op_loadR [.int .i64 ((ix p2 s2093).When.From), .int .i64 ((ix p2 s2093).When.To)] rfl (by kernel_rfl) ((hr_p2.old c2).part (o := 2) h2366.1 h2366.2 rfl))) (hsub [] (by kernel_rfl) rfl _ c2394) ?_
         refine wh_take 5 139 rfl (by kernel_rfl) (by kernel_rfl) (fun w2 c2 => (om (v := .slice _ _ _) rfl)) (hsub [] (by kernel_rfl) rfl _ c2394) ?_
         refine wh_take 6 140 rfl (by kernel_rfl) (by kernel_rfl) (fun w2 c2 => (om (v := .int .i64 _) rfl)) (hsub [] (by kernel_rfl) rfl _ c2394) ?_
         refine wh_take 7 141 rfl (by kernel_rfl) (by kernel_rfl) (fun w2 c2 => (op_indexA 4 rfl rfl (by kernel_rfl) ((hr_p2.old c2).addr h2367.1 h2367.2) hz_p2.2.2 h2367.1 h2367.2)) (hsub [] (by kernel_rfl) rfl _ c2394) ?_
         refine wh_take 8 142 rfl (by kernel_rfl) (by kernel_rfl) (fun w2 c2 => (op_field (m := 2) rfl (by kernel_rfl))) (hsub [] (by kernel_rfl) rfl _ c2394) ?_
         refine wh_take 9 143 rfl (by kernel_rfl) (by kernel_rfl) (fun w2 c2 => (op_loadR [.int .i64 ((ix p2 s2363).When.From), .int .i64 ((ix p2 s2363).When.To)] rfl (by kernel_rfl) ((hr_p2.old c2).part (o := 2) h2367.1 h2367.2 rfl))) (hsub [] (by kernel_rfl) rfl _ c2394) ?_
         refine wh_ready [10, 14] (by kernel_rfl) rfl ⟨?_, ?_, trivial⟩
         ·skip
          refine ws_call 144 rfl (by kernel_rfl) (op_call (by kernel_rfl)) (m_recyclingref14_common_ok N _ ((ix p2 s2093).When) ((ix p2 s2363).When)  r2368 h2369) ?_
          rintro x w2396 ⟨u2395, rfl, c2397⟩
          replace c2397 := c2394.call c2397
          refine ⟨_, rfl, (hsub [] (by kernel_rfl) rfl _ c2397), ?_⟩
          refine wh_take 11 133 rfl (by kernel_rfl) (by kernel_rfl) (fun w2 c2 => (om (v := .tuple _) rfl)) (hsub [] (by kernel_rfl) rfl _ c2397) ?_
          refine wh_take 12 145 rfl (by kernel_rfl) (by kernel_rfl) (fun w2 c2 => (op_extract (v := .agg _) rfl rfl)) (hsub [] (by kernel_rfl) rfl _ c2397) ?_
          refine wh_take 13 146 rfl (by kernel_rfl) (by kernel_rfl) (fun w2 c2 => (op_extract (v := .bool _) rfl rfl)) (hsub [] (by kernel_rfl) rfl _ c2397) ?_
          refine wh_ready [14] (by kernel_rfl) rfl ⟨?_, trivial⟩
          refine ws_alloc 13 [.int .i64 0, .int .i64 0] (v := .agg #[.int .i64 0, .int .i64 0]) rfl (by kernel_rfl) (by kernel_rfl) rfl c2397 ?_
          intro b2398 w2399 c2400
          refine ⟨(hsub [] (by kernel_rfl) rfl _ c2400), ?_⟩
          refine wh_ready [15] (by kernel_rfl) rfl ⟨?_, trivial⟩
          refine ws_storeA 0 [.int .i64 _, .int .i64 _] [_, _] rfl (by kernel_rfl) rfl rfl (by kernel_rfl) rfl rfl (by kernel_rfl) rfl (H' := [blkE _ _ [_, _]]) rfl c2400 ?_
          intro w2401 c2402
          refine ⟨(hsub [] (by kernel_rfl) rfl _ c2402), ?_⟩
          refine wh_take 16 14 rfl (by kernel_rfl) (by kernel_rfl) (fun w2 c2 => (oa (v := .bool _) rfl)) (hsub [] (by kernel_rfl) rfl _ c2402) ?_
          exact wh_done () (by kernel_rfl) (sc (by kernel_rfl) rfl (sc (by kernel_rfl) rfl (sc (by kernel_rfl) rfl (sc (by kernel_rfl) rfl sub_nil)))) (hsub [] (by kernel_rfl) rfl _ c2402)
         ·skip
          refine ws_alloc 13 [.int .i64 0, .int .i64 0] (v := .agg #[.int .i64 0, .int .i64 0]) rfl (by kernel_rfl) (by kernel_rfl) rfl c2394 ?_
          intro b2403 w2404 c2405
          refine ⟨(hsub [] (by kernel_rfl) rfl _ c2405), ?_⟩
          refine wh_ready [10] (by kernel_rfl) rfl ⟨?_, trivial⟩
          refine ws_call 144 rfl (by kernel_rfl) (op_call (by kernel_rfl)) (m_recyclingref14_common_ok N _ ((ix p2 s2093).When) ((ix p2 s2363).When)  r2368 h2369) ?_
          rintro x w2407 ⟨u2406, rfl, c2408⟩
          replace c2408 := c2405.call c2408
          refine ⟨_, rfl, (hsub [] (by kernel_rfl) rfl _ c2408), ?_⟩
          refine wh_take 11 133 rfl (by kernel_rfl) (by kernel_rfl) (fun w2 c2 => (om (v := .tuple _) rfl)) (hsub [] (by kernel_rfl) rfl _ c2408) ?_
          refine wh_take 12 145 rfl (by kernel_rfl) (by kernel_rfl) (fun w2 c2 => (op_extract (v := .agg _) rfl rfl)) (hsub [] (by kernel_rfl) rfl _ c2408) ?_
          refine wh_take 13 146 rfl (by kernel_rfl) (by kernel_rfl) (fun w2 c2 => (op_extract (v := .bool _) rfl rfl)) (hsub [] (by kernel_rfl) rfl _ c2408) ?_
          refine wh_ready [15] (by kernel_rfl) rfl ⟨?_, trivial⟩
          refine ws_storeA 0 [.int .i64 _, .int .i64 _] [_, _] rfl (by kernel_rfl) rfl rfl (by kernel_rfl) rfl rfl (by kernel_rfl) rfl (H' := [blkE _ _ [_, _]]) rfl c2408 ?_
          intro w2409 c2410
          refine ⟨(hsub [] (by kernel_rfl) rfl _ c2410), ?_⟩
          refine wh_take 16 14 rfl (by kernel_rfl) (by kernel_rfl) (fun w2 c2 => (oa (v := .bool _) rfl)) (hsub [] (by kernel_rfl) rfl _ c2410) ?_
          exact wh_done () (by kernel_rfl) (sc (by kernel_rfl) rfl (sc (by kernel_rfl) rfl (sc (by kernel_rfl) rfl (sc (by kernel_rfl) rfl sub_nil)))) (hsub [] (by kernel_rfl) rfl _ c2410)
        intro u2391
        refine xn ?_
        refine cq ?_
        refine cm_ck (fun h2411 => ?_)
        refine cm_ck (fun h2412 => ?_)
        refine cm_drawn [(160, .bool (r2368.2 && (decide ((ix p2 s2093).Container = (ix p2 s2363).Container))))] (by kernel_rfl) (by kernel_rfl) ?_ ?_
        ·skip
         refine wq_bool 147 (by kernel_rfl) (fun w1 c1 => (om (v := .bool _) rfl)) (fun h2413 => ?_) (fun h2413 => ?_)
         ·skip
          refine wv 148 (by kernel_rfl) (fun w1 c1 => (om (v := .bool true) rfl)) ?_
          refine wv 149 (by kernel_rfl) (fun w1 c1 => (om (v := .slice _ _ _) rfl)) ?_
          refine wv 150 (by kernel_rfl) (fun w1 c1 => (om (v := .int .i64 _) rfl)) ?_
          refine wv 151 (by kernel_rfl) (fun w1 c1 => (op_indexA 4 rfl rfl (by kernel_rfl) ((hr_p2.old c1).addr (h2411 (by rw [h2413] <;> rfl)).1 (h2411 (by rw [h2413] <;> rfl)).2) hz_p2.2.2 (h2411 (by rw [h2413] <;> rfl)).1 (h2411 (by rw [h2413] <;> rfl)).2)) ?_
          refine wv 152 (by kernel_rfl) (fun w1 c1 => (op_field0 rfl (by kernel_rfl))) ?_
          refine wv 153 (by kernel_rfl) (fun w1 c1 => (ol (v := .int .i64 ((ix p2 s2093).Container)) rfl (by kernel_rfl) ((hr_p2.old c1).cell0 (h2411 (by rw [h2413] <;> rfl)).1 (h2411 (by rw [h2413] <;> rfl)).2 rfl))) ?_
          refine wv 154 (by kernel_rfl) (fun w1 c1 => (om (v := .slice _ _ _) rfl)) ?_
          refine wv 155 (by kernel_rfl) (fun w1 c1 => (om (v := .int .i64 _) rfl)) ?_
          refine wv 156 (by kernel_rfl) (fun w1 c1 => (op_indexA 4 rfl rfl (by kernel_rfl) ((hr_p2.old c1).addr (h2412 (by rw [h2413] <;> rfl)).1 (h2412 (by rw [h2413] <;> rfl)).2) hz_p2.2.2 (h2412 (by rw [h2413] <;> rfl)).1 (h2412 (by rw [h2413] <;> rfl)).2)) ?_
          refine wv 157 (by kernel_rfl) (fun w1 c1 => (op_field0 rfl (by kernel_rfl))) ?_
          refine wv 158 (by kernel_rfl) (fun w1 c1 => (ol (v := .int .i64 ((ix p2 s2363).Container)) rfl (by kernel_rfl) ((hr_p2.old c1).cell0 (h2412 (by rw [h2413] <;> rfl)).1 (h2412 (by rw [h2413] <;> rfl)).2 rfl))) ?_
          refine wv 159 (by kernel_rfl) (fun w1 c1 => (op_eql rfl rfl)) ?_
          refine wv 160 (by kernel_rfl) (fun w1 c1 => (opt (v := .bool _) rfl rfl)) ?_
          exact leaf_q (sub_out 14 _ rfl (by kernel_rfl) ⟨(congrArg Value.bool (by rw [h2413] <;> rfl)), trivial⟩)
         ·skip
          refine wv 148 (by kernel_rfl) (fun w1 c1 => (om (v := .bool false) rfl)) ?_
          refine wk 149 (by kernel_rfl) ?_
          refine wk 150 (by kernel_rfl) ?_
          refine wk 151 (by kernel_rfl) ?_
          refine wk 152 (by kernel_rfl) ?_
          refine wk 153 (by kernel_rfl) ?_
          refine wk 154 (by kernel_rfl) ?_
          refine wk 155 (by kernel_rfl) ?_
          refine wk 156 (by kernel_rfl) ?_
          refine wk 157 (by kernel_rfl) ?_
          refine wk 158 (by kernel_rfl) ?_
          refine wk 159 (by kernel_rfl) ?_
          refine wv 160 (by kernel_rfl) (fun w1 c1 => (opf (v := .bool false) rfl rfl)) ?_
          exact leaf_q (sub_out 14 _ rfl (by kernel_rfl) ⟨(congrArg Value.bool (by rw [h2413] <;> rfl)), trivial⟩)
        refine xn ?_
        refine cm_condB (by kernel_rfl) rfl (fun h2414 => ?_) (fun h2414 => ?_)
        ·skip
         refine cq ?_
         refine cr ?_
         refine lv 6 (by kernel_rfl) (fun w1 c1 => (oa (v := .int .i64 _) rfl)) ?_
         refine ln ?_
         refine xn ?_
         refine cm_ret ?_
         refine xm_inR ?_
         refine xm_thenR ?_
         refine xm_lret ?_
         refine xm_inR ?_
         refine xm_inR ?_
         refine xm_lret ?_
         refine xm_lret ?_
         refine xm_inR ?_
         refine xm_lret ?_
         exact xm_retT rfl (by kernel_rfl) (show _ = Value.int .i64 _ from rfl) fun w1 c1 => ⟨(), rfl, hsub [] (by kernel_rfl) rfl w1 c1⟩
        ·skip
         refine cm_skip ?_
         refine xm_inN ?_
         refine xn ?_
         refine cr ?_
         refine lv 131 (by kernel_rfl) (fun w1 c1 => (om (v := .int .i64 _) rfl)) ?_
         refine lm_ck (fun h2415 => ?_)
         refine lv 132 (by kernel_rfl) (fun w1 c1 => (op_add rfl rfl h2415)) ?_
         refine lv 12 (by kernel_rfl) (fun w1 c1 => (oa (v := .int .i64 _) rfl)) ?_
         refine ln ?_
         exact xm_lnext () (sc (by kernel_rfl) rfl (sc (by kernel_rfl) rfl (sc (by kernel_rfl) rfl sub_nil))) (hsub [] (by kernel_rfl) rfl)
       ·skip
        refine cm_exit ?_
        refine xm_thenE ?_
        refine xm_lexit ?_
        refine xm_here ?_
        refine xm_inN ?_
        exact xm_lnext () (sc (by kernel_rfl) rfl (sc (by kernel_rfl) rfl sub_nil)) (hsub [] (by kernel_rfl) rfl)
      intro s2255 u2256
      refine cr ?_
      refine lv 126 (by kernel_rfl) (fun w1 c1 => (om (v := .int .i64 _) rfl)) ?_
      refine lm_ck (fun h2416 => ?_)
      refine lv 127 (by kernel_rfl) (fun w1 c1 => (op_add rfl rfl h2416)) ?_
      refine lv 11 (by kernel_rfl) (fun w1 c1 => (oa (v := .int .i64 _) rfl)) ?_
      refine ln ?_
      exact xm_lnext () (sc (by kernel_rfl) rfl (sc (by kernel_rfl) rfl sub_nil)) (hsub [] (by kernel_rfl) rfl)
     ·skip
      refine cm_exit ?_
      refine xm_thenE ?_
      refine xm_lexit ?_
      refine xm_here ?_
      exact xm_lnext () sub_nil (hsub [] (by kernel_rfl) rfl)
    intro s1443 u1444
    refine cq ?_
    refine cr ?_
    refine lv 6 (by kernel_rfl) (fun w1 c1 => (oa (v := .int .i64 _) rfl)) ?_
    refine ln ?_
    refine xn ?_
    refine cm_ret ?_
    exact xm_retT rfl (by kernel_rfl) (show _ = Value.int .i64 _ from rfl) fun w1 c1 => ⟨(), rfl, hsub [] (by kernel_rfl) rfl w1 c1⟩
end Go.Proofs.YtljogldcejcikaaGreat
