/- Models of functions, and that the code follows them. Written by deco.py. -/
import Derived.Test.YtljogldcejcikaaCmp1
namespace Go.Proofs.Ytljogldcejcikaa
open Go.RowKit

/-- household.people$1 -/
def m_household_people_1 (_N : Nat) (p0 : ApiHousehold) (q0 : ApiHousehold) : Option (Bool) :=
  some ((decide (p0.ID = q0.ID)))
set_option maxRecDepth 20000 in
theorem m_household_people_1_ok (N : Nat) (w0 : World) (p0 : ApiHousehold) (q0 : ApiHousehold) (b_q0 : Nat) (hb_q0 : Blk w0 b_q0 73 [.string q0.ID, .int .i64 q0.Persons]) (r : Bool) (hr : m_household_people_1 N p0 q0 = some r) :
    Calls Try.prog 69 [.agg #[.string p0.ID, .int .i64 p0.Persons], .pointer (some ⟨b_q0, 0, none⟩)].toArray w0 fun x w1 => ∃ u, x = .returned ((fun (r : Bool) (_u : Unit) => .bool r) r u) ∧ Hs w0 ((fun (_r : Bool) (_u : Unit) => []) r u) w1 := by
  refine calls_cm (n := 9) (R := fun r x w1 => ∃ u, x = .returned ((fun (r : Bool) (_u : Unit) => .bool r) r u) ∧ Hs w0 ((fun (_r : Bool) (_u : Unit) => []) r u) w1) Try.func69 rfl rfl (Nat.le_of_ble_eq_true rfl) ?_ r hr
  unfold m_household_people_1
  refine cm_seq ?_
  refine cm_region ?_
  refine lm_box 2 [.string _, .int .i64 _] (by kernel_rfl) rfl ?_
  intro b5
  refine lm_val 3 (by kernel_rfl) (fun w1 c1 => (op_assign (v := .bool false) rfl)) ?_
  refine lm_nil ?_
  refine xm_next ?_
  refine cm_seq ?_
  refine cm_region ?_
  refine lm_val 4 (by kernel_rfl) (fun w1 c1 => (op_fieldL (m := 0) (k := 0) rfl (by kernel_rfl) rfl)) ?_
  refine lm_val 5 (by kernel_rfl) (fun w1 c1 => (op_load rfl (by kernel_rfl) (c1.cell 0 (u := .string _) rfl rfl))) ?_
  refine lm_val 6 (by kernel_rfl) (fun w1 c1 => (op_fieldL (m := 0) (k := 0) rfl (by kernel_rfl) rfl)) ?_
  refine lm_val 7 (by kernel_rfl) (fun w1 c1 => (op_load rfl (by kernel_rfl) (c1.ocell (hb_q0.at_ 0 (u := .string _) rfl)))) ?_
  refine lm_val 8 (by kernel_rfl) (fun w1 c1 => (op_eqlS rfl rfl)) ?_
  refine lm_val 3 (by kernel_rfl) (fun w1 c1 => (op_assign (v := .bool _) rfl)) ?_
  refine lm_nil ?_
  refine xm_next ?_
  refine cm_ret ?_
  exact xm_retT rfl (by kernel_rfl) (show _ = Value.bool _ from rfl) fun w1 c1 => ⟨(), rfl, hsub [] (by kernel_rfl) rfl w1 c1⟩
/-- slices.IndexFunc -/
def m_slices_IndexFunc_household_people_1 (N : Nat) (p0 : (List ApiHousehold)) (p1c0 : ApiHousehold) : Option (Int) :=
  (andThen
    (loopM (fun (s47 : Int) =>
      (if s47 < (List.length p0 : Int) then
        ck ((0 : Int) ≤ s47 ∧ s47 < (List.length p0 : Int)) (
          Option.bind (m_household_people_1 N (ix p0 s47) p1c0) fun r51 => (if r51 = true then
            some (.done (.done (s47)))
          else
            ck (I64 (s47 + (1 : Int))) (
              some (.next (s47 + (1 : Int))))))
      else
        some (.done (.next ())))) N (0 : Int))
  fun (_s29 : Unit) =>
    some ((-1 : Int)))
set_option maxRecDepth 20000 in
theorem m_slices_IndexFunc_household_people_1_ok (N : Nat) (w0 : World) (p0 : (List ApiHousehold)) (p1c0 : ApiHousehold) (A_p0 : Option Addr) (n_p0 c_p0 : Nat) (b_p1c0 : Nat) (hr_p0 : RdE w0 2 encApiHousehold A_p0 p0) (hz_p0 : SW A_p0 n_p0 c_p0 (List.length p0)) (hb_p1c0 : Blk w0 b_p1c0 73 [.string p1c0.ID, .int .i64 p1c0.Persons]) (r : Int) (hr : m_slices_IndexFunc_household_people_1 N p0 p1c0 = some r) :
    Calls Try.prog 82 [.slice A_p0 n_p0 c_p0, .func (.func 69) #[] #[.pointer (some ⟨b_p1c0, 0, none⟩)]].toArray w0 fun x w1 => ∃ u, x = .returned ((fun (r : Int) (_u : Unit) => .int .i64 r) r u) ∧ Hs w0 ((fun (_r : Int) (_u : Unit) => []) r u) w1 := by
  refine calls_cm (n := 19) (R := fun r x w1 => ∃ u, x = .returned ((fun (r : Int) (_u : Unit) => .int .i64 r) r u) ∧ Hs w0 ((fun (_r : Int) (_u : Unit) => []) r u) w1) Try.func82 rfl rfl (Nat.le_of_ble_eq_true rfl) ?_ r hr
  unfold m_slices_IndexFunc_household_people_1
  refine cm_seq ?_
  refine cm_region ?_
  refine lm_val 4 (by kernel_rfl) (fun w1 c1 => (op_assign (v := .int .i64 _) rfl)) ?_
  refine lm_nil ?_
  refine xm_next ?_
  refine cm_join (σ := Unit) (ξ := Unit) (fun s29 u30 => []) (fun s29 u30 => []) ?_ ?_
  · skip
    refine cm_seq ?_
    refine cm_region ?_
    refine lm_val 6 (by kernel_rfl) (fun w1 c1 => (op_move (v := .slice _ _ _) rfl)) ?_
    refine lm_val 7 (by kernel_rfl) (fun w1 c1 => (op_lenN rfl (by kernel_rfl) hz_p0.2.2)) ?_
    refine lm_val 8 (by kernel_rfl) (fun w1 c1 => (op_move (v := .int .i64 _) rfl)) ?_
    refine lm_nil ?_
    refine xm_next ?_
    refine cm_block ?_
    refine cm_loop (σ := Int) (ξ := Unit) (fun s47 u48 => [(0, .slice A_p0 n_p0 c_p0), (1, .func (.func 69) #[] #[.pointer (some ⟨b_p1c0, 0, none⟩)]), (7, .int .i64 (List.length p0 : Int)), (8, .int .i64 s47)]) (fun s47 u48 => []) () ?_ ?_ ?_
    · exact (sub_cons (by kernel_rfl) rfl (sub_cons (by kernel_rfl) rfl (sub_cons (by kernel_rfl) rfl (sub_cons (by kernel_rfl) rfl sub_nil))))
    · exact hsub [] (by kernel_rfl) rfl
    intro s47 u48
    refine cm_seq ?_
    refine cm_region ?_
    refine lm_val 9 (by kernel_rfl) (fun w1 c1 => (op_lss rfl rfl)) ?_
    refine lm_nil ?_
    refine xm_next ?_
    refine cm_seq ?_
    refine cm_cond (by kernel_rfl) rfl (fun h49 => ?_) (fun h49 => ?_)
    · skip
      refine cm_skip ?_
      refine xm_next ?_
      refine cm_seq ?_
      refine cm_block ?_
      refine cm_seq ?_
      refine cm_region ?_
      refine lm_val 10 (by kernel_rfl) (fun w1 c1 => (op_move (v := .int .i64 _) rfl)) ?_
      refine lm_val 5 (by kernel_rfl) (fun w1 c1 => (op_assign (v := .int .i64 _) rfl)) ?_
      refine lm_nil ?_
      refine xm_next ?_
      refine cm_seq ?_
      refine cm_region ?_
      refine lm_val 11 (by kernel_rfl) (fun w1 c1 => (op_move (v := .func _ _ _) rfl)) ?_
      refine lm_val 12 (by kernel_rfl) (fun w1 c1 => (op_move (v := .slice _ _ _) rfl)) ?_
      refine lm_val 13 (by kernel_rfl) (fun w1 c1 => (op_move (v := .int .i64 _) rfl)) ?_
      refine lm_ck (fun h50 => ?_)
      refine lm_val 14 (by kernel_rfl) (fun w1 c1 => (op_indexA 2 rfl rfl (by kernel_rfl) ((hr_p0.old c1).addr h50.1 h50.2) hz_p0.2.2 h50.1 h50.2)) ?_
      refine lm_val 15 (by kernel_rfl) (fun w1 c1 => (op_loadR [.string ((ix p0 s47).ID), .int .i64 ((ix p0 s47).Persons)] rfl (by kernel_rfl) ((hr_p0.old c1).row h50.1 h50.2))) ?_
      refine lm_call 16 (V := (fun (r : Bool) (_u : Unit) => .bool r)) (HR := (fun (_r : Bool) (_u : Unit) => [])) (by kernel_rfl) (fun w1 => op_callv rfl (by kernel_rfl)) (fun r1 hr1 w1 c1 => m_household_people_1_ok N w1 (ix p0 s47) p1c0 b_p1c0 (c1.oblk hb_p1c0) r1 hr1) ?_
      intro r51 u52
      refine lm_nil ?_
      refine xm_next ?_
      refine cm_condB (by kernel_rfl) rfl (fun h53 => ?_) (fun h53 => ?_)
      · skip
        refine cm_seq ?_
        refine cm_region ?_
        refine lm_val 17 (by kernel_rfl) (fun w1 c1 => (op_move (v := .int .i64 _) rfl)) ?_
        refine lm_val 4 (by kernel_rfl) (fun w1 c1 => (op_assign (v := .int .i64 _) rfl)) ?_
        refine lm_nil ?_
        refine xm_next ?_
        refine cm_ret ?_
        refine xm_inR ?_
        refine xm_thenR ?_
        refine xm_lret ?_
        refine xm_inR ?_
        refine xm_lret ?_
        exact xm_retT rfl (by kernel_rfl) (show _ = Value.int .i64 _ from rfl) fun w1 c1 => ⟨(), rfl, hsub [] (by kernel_rfl) rfl w1 c1⟩
      · skip
        refine cm_skip ?_
        refine xm_inN ?_
        refine xm_next ?_
        refine cm_region ?_
        refine lm_ck (fun h54 => ?_)
        refine lm_val 18 (by kernel_rfl) (fun w1 c1 => (op_add rfl rfl h54)) ?_
        refine lm_val 8 (by kernel_rfl) (fun w1 c1 => (op_move (v := .int .i64 _) rfl)) ?_
        refine lm_nil ?_
        exact xm_lnext () (sub_cons (by kernel_rfl) rfl (sub_cons (by kernel_rfl) rfl (sub_cons (by kernel_rfl) rfl (sub_cons (by kernel_rfl) rfl sub_nil)))) (hsub [] (by kernel_rfl) rfl)
    · skip
      refine cm_exit ?_
      refine xm_thenE ?_
      refine xm_lexit ?_
      refine xm_here ?_
      exact xm_lnext () sub_nil (hsub [] (by kernel_rfl) rfl)
  intro s29 u30
  refine cm_seq ?_
  refine cm_region ?_
  refine lm_val 4 (by kernel_rfl) (fun w1 c1 => (op_assign (v := .int .i64 _) rfl)) ?_
  refine lm_nil ?_
  refine xm_next ?_
  refine cm_ret ?_
  exact xm_retT rfl (by kernel_rfl) (show _ = Value.int .i64 _ from rfl) fun w1 c1 => ⟨(), rfl, hsub [] (by kernel_rfl) rfl w1 c1⟩
/-- slices.ContainsFunc -/
def m_slices_ContainsFunc_household_people_1 (N : Nat) (p0 : (List ApiHousehold)) (p1c0 : ApiHousehold) : Option (Bool) :=
  Option.bind (m_slices_IndexFunc_household_people_1 N p0 p1c0) fun r5 => some ((decide (0 ≤ r5)))
set_option maxRecDepth 20000 in
theorem m_slices_ContainsFunc_household_people_1_ok (N : Nat) (w0 : World) (p0 : (List ApiHousehold)) (p1c0 : ApiHousehold) (A_p0 : Option Addr) (n_p0 c_p0 : Nat) (b_p1c0 : Nat) (hr_p0 : RdE w0 2 encApiHousehold A_p0 p0) (hz_p0 : SW A_p0 n_p0 c_p0 (List.length p0)) (hb_p1c0 : Blk w0 b_p1c0 73 [.string p1c0.ID, .int .i64 p1c0.Persons]) (r : Bool) (hr : m_slices_ContainsFunc_household_people_1 N p0 p1c0 = some r) :
    Calls Try.prog 68 [.slice A_p0 n_p0 c_p0, .func (.func 69) #[] #[.pointer (some ⟨b_p1c0, 0, none⟩)]].toArray w0 fun x w1 => ∃ u, x = .returned ((fun (r : Bool) (_u : Unit) => .bool r) r u) ∧ Hs w0 ((fun (_r : Bool) (_u : Unit) => []) r u) w1 := by
  refine calls_cm (n := 9) (R := fun r x w1 => ∃ u, x = .returned ((fun (r : Bool) (_u : Unit) => .bool r) r u) ∧ Hs w0 ((fun (_r : Bool) (_u : Unit) => []) r u) w1) Try.func68 rfl rfl (Nat.le_of_ble_eq_true rfl) ?_ r hr
  unfold m_slices_ContainsFunc_household_people_1
  refine cm_seq ?_
  refine cm_region ?_
  refine lm_val 4 (by kernel_rfl) (fun w1 c1 => (op_assign (v := .bool false) rfl)) ?_
  refine lm_nil ?_
  refine xm_next ?_
  refine cm_seq ?_
  refine cm_region ?_
  refine lm_val 5 (by kernel_rfl) (fun w1 c1 => (op_move (v := .slice _ _ _) rfl)) ?_
  refine lm_val 6 (by kernel_rfl) (fun w1 c1 => (op_move (v := .func _ _ _) rfl)) ?_
  refine lm_call 7 (V := (fun (r : Int) (_u : Unit) => .int .i64 r)) (HR := (fun (_r : Int) (_u : Unit) => [])) (by kernel_rfl) (fun w1 => op_call (by kernel_rfl)) (fun r1 hr1 w1 c1 => m_slices_IndexFunc_household_people_1_ok N w1 p0 p1c0 A_p0 n_p0 c_p0 b_p1c0 (hr_p0.old c1) hz_p0 (c1.oblk hb_p1c0) r1 hr1) ?_
  intro r5 u6
  refine lm_val 8 (by kernel_rfl) (fun w1 c1 => (op_geq rfl rfl)) ?_
  refine lm_val 4 (by kernel_rfl) (fun w1 c1 => (op_assign (v := .bool _) rfl)) ?_
  refine lm_nil ?_
  refine xm_next ?_
  refine cm_ret ?_
  exact xm_retT rfl (by kernel_rfl) (show _ = Value.bool _ from rfl) fun w1 c1 => ⟨(), rfl, hsub [] (by kernel_rfl) rfl w1 c1⟩
/-- household.people -/
def m_household_people (N : Nat) (p0 : (List ApiHousehold)) : Option (Int) :=
  (if 256 < (List.length p0 : Int) then
    some ((8 : Int))
  else
    (andThen
      (loopM (fun (s63 : Int) =>
        (if s63 < (List.length p0 : Int) then
          ck ((0 : Int) ≤ s63 ∧ s63 < (List.length p0 : Int)) (
            Option.bind (m_ident_Valid N ((ix p0 s63).ID)) fun r68 => (if (!r68) = true then
              some (.done (.done ((5 : Int))))
            else
              (if ((decide ((ix p0 s63).Persons < 1)) || (decide (100 < (ix p0 s63).Persons))) = true then
                some (.done (.done ((1 : Int))))
              else
                ck (I64 (s63 + (1 : Int))) (
                  some (.next (s63 + (1 : Int)))))))
        else
          some (.done (.next ())))) N (0 : Int))
    fun (_s39 : Unit) =>
      (andThen
        (loopM (fun (s126 : Int) =>
          (if s126 < (List.length p0 : Int) then
            ck ((0 : Int) ≤ s126 ∧ s126 < (List.length p0 : Int)) (
              ck ((0 : Int) ≤ s126 ∧ s126 ≤ (List.length p0 : Int)) (
                Option.bind (m_slices_ContainsFunc_household_people_1 N (List.take (Int.toNat s126) p0) (ix p0 s126)) fun r132 => (if r132 = true then
                  some (.done (.done ((6 : Int))))
                else
                  ck (I64 (s126 + (1 : Int))) (
                    some (.next (s126 + (1 : Int)))))))
          else
            some (.done (.next ())))) N (0 : Int))
      fun (_s104 : Unit) =>
        some ((0 : Int)))))
set_option maxHeartbeats 2000000 in
set_option maxRecDepth 20000 in
theorem m_household_people_ok (N : Nat) (w0 : World) (p0 : (List ApiHousehold)) (A_p0 : Option Addr) (n_p0 c_p0 : Nat) (hr_p0 : RdE w0 2 encApiHousehold A_p0 p0) (hz_p0 : SW A_p0 n_p0 c_p0 (List.length p0)) (r : Int) (hr : m_household_people N p0 = some r) :
    Calls Try.prog 56 [.slice A_p0 n_p0 c_p0].toArray w0 fun x w1 => ∃ u, x = .returned ((fun (r : Int) (_u : Unit) => .int .i64 r) r u) ∧ Hs w0 ((fun (_r : Int) (_u : Unit) => []) r u) w1 := by
  refine calls_cm (n := 42) (R := fun r x w1 => ∃ u, x = .returned ((fun (r : Int) (_u : Unit) => .int .i64 r) r u) ∧ Hs w0 ((fun (_r : Int) (_u : Unit) => []) r u) w1) Try.func56 rfl rfl (Nat.le_of_ble_eq_true rfl) ?_ r hr
  unfold m_household_people
  refine cm_seq ?_
  refine cm_region ?_
  refine lm_val 2 (by kernel_rfl) (fun w1 c1 => (op_assign (v := .int .i64 _) rfl)) ?_
  refine lm_nil ?_
  refine xm_next ?_
  refine cm_seq ?_
  refine cm_seq ?_
  refine cm_region ?_
  refine lm_val 7 (by kernel_rfl) (fun w1 c1 => (op_move (v := .slice _ _ _) rfl)) ?_
  refine lm_val 8 (by kernel_rfl) (fun w1 c1 => (op_lenN rfl (by kernel_rfl) hz_p0.2.2)) ?_
  refine lm_val 9 (by kernel_rfl) (fun w1 c1 => (op_gtr rfl rfl)) ?_
  refine lm_nil ?_
  refine xm_next ?_
  refine cm_cond (by kernel_rfl) rfl (fun h5 => ?_) (fun h5 => ?_)
  · skip
    refine cm_seq ?_
    refine cm_region ?_
    refine lm_val 2 (by kernel_rfl) (fun w1 c1 => (op_assign (v := .int .i64 _) rfl)) ?_
    refine lm_nil ?_
    refine xm_next ?_
    refine cm_ret ?_
    refine xm_thenR ?_
    exact xm_retT rfl (by kernel_rfl) (show _ = Value.int .i64 _ from rfl) fun w1 c1 => ⟨(), rfl, hsub [] (by kernel_rfl) rfl w1 c1⟩
  · skip
    refine cm_skip ?_
    refine xm_next ?_
    refine cm_join (σ := Unit) (ξ := Unit) (fun s39 u40 => [(0, .slice A_p0 n_p0 c_p0)]) (fun s39 u40 => []) ?_ ?_
    · skip
      refine cm_seq ?_
      refine cm_region ?_
      refine lm_val 10 (by kernel_rfl) (fun w1 c1 => (op_move (v := .slice _ _ _) rfl)) ?_
      refine lm_val 11 (by kernel_rfl) (fun w1 c1 => (op_lenN rfl (by kernel_rfl) hz_p0.2.2)) ?_
      refine lm_val 12 (by kernel_rfl) (fun w1 c1 => (op_move (v := .int .i64 _) rfl)) ?_
      refine lm_nil ?_
      refine xm_next ?_
      refine cm_block ?_
      refine cm_loop (σ := Int) (ξ := Unit) (fun s63 u64 => [(0, .slice A_p0 n_p0 c_p0), (10, .slice A_p0 n_p0 c_p0), (11, .int .i64 (List.length p0 : Int)), (12, .int .i64 s63)]) (fun s63 u64 => []) () ?_ ?_ ?_
      · exact (sub_cons (by kernel_rfl) rfl (sub_cons (by kernel_rfl) rfl (sub_cons (by kernel_rfl) rfl (sub_cons (by kernel_rfl) rfl sub_nil))))
      · exact hsub [] (by kernel_rfl) rfl
      intro s63 u64
      refine cm_seq ?_
      refine cm_region ?_
      refine lm_val 13 (by kernel_rfl) (fun w1 c1 => (op_lss rfl rfl)) ?_
      refine lm_nil ?_
      refine xm_next ?_
      refine cm_seq ?_
      refine cm_cond (by kernel_rfl) rfl (fun h65 => ?_) (fun h65 => ?_)
      · skip
        refine cm_skip ?_
        refine xm_next ?_
        refine cm_seq ?_
        refine cm_block ?_
        refine cm_seq ?_
        refine cm_region ?_
        refine lm_ck (fun h66 => ?_)
        refine lm_val 14 (by kernel_rfl) (fun w1 c1 => (op_indexA 2 rfl rfl (by kernel_rfl) ((hr_p0.old c1).addr h66.1 h66.2) hz_p0.2.2 h66.1 h66.2)) ?_
        refine lm_val 15 (by kernel_rfl) (fun w1 c1 => (op_loadR [.string ((ix p0 s63).ID), .int .i64 ((ix p0 s63).Persons)] rfl (by kernel_rfl) ((hr_p0.old c1).row h66.1 h66.2))) ?_
        refine lm_alloc 4 [.string (⟨#[]⟩ : ByteArray), .int .i64 0] (v := .agg #[.string (⟨#[]⟩ : ByteArray), .int .i64 0]) (by kernel_rfl) (by kernel_rfl) rfl ?_
        intro b67
        refine lm_storeA 0 [.string _, .int .i64 _] [_, _] (H' := [blkE _ _ [_, _]]) (by kernel_rfl) rfl rfl (by kernel_rfl) rfl rfl (by kernel_rfl) rfl rfl ?_
        refine lm_nil ?_
        refine xm_next ?_
        refine cm_seq ?_
        refine cm_seq ?_
        refine cm_region ?_
        refine lm_val 16 (by kernel_rfl) (fun w1 c1 => (op_fieldL (m := 0) (k := 0) rfl (by kernel_rfl) rfl)) ?_
        refine lm_val 17 (by kernel_rfl) (fun w1 c1 => (op_load rfl (by kernel_rfl) (c1.cell 0 (u := .string _) rfl rfl))) ?_
        refine lm_call 18 (V := (fun (r : Bool) (_u : Unit) => .bool r)) (HR := (fun (_r : Bool) (_u : Unit) => [])) (by kernel_rfl) (fun w1 => op_call (by kernel_rfl)) (fun r1 hr1 w1 c1 => m_ident_Valid_ok N w1 ((ix p0 s63).ID)  r1 hr1) ?_
        intro r68 u69
        refine lm_val 19 (by kernel_rfl) (fun w1 c1 => (op_not rfl)) ?_
        refine lm_nil ?_
        refine xm_next ?_
        refine cm_condB (by kernel_rfl) rfl (fun h70 => ?_) (fun h70 => ?_)
        · skip
          refine cm_seq ?_
          refine cm_region ?_
          refine lm_val 2 (by kernel_rfl) (fun w1 c1 => (op_assign (v := .int .i64 _) rfl)) ?_
          refine lm_nil ?_
          refine xm_next ?_
          refine cm_ret ?_
          refine xm_thenR ?_
          refine xm_inR ?_
          refine xm_thenR ?_
          refine xm_lret ?_
          refine xm_inR ?_
          refine xm_lret ?_
          exact xm_retT rfl (by kernel_rfl) (show _ = Value.int .i64 _ from rfl) fun w1 c1 => ⟨(), rfl, hsub [] (by kernel_rfl) rfl w1 c1⟩
        · skip
          refine cm_skip ?_
          refine xm_next ?_
          refine cm_seq ?_
          refine cm_cutE [(27, .bool ((decide ((ix p0 s63).Persons < 1)) || (decide (100 < (ix p0 s63).Persons))))] ?_ ?_
          · skip
            refine wq_val 20 (by kernel_rfl) (fun w1 c1 => (op_fieldL (m := 1) (k := 1) rfl (by kernel_rfl) rfl)) ?_
            refine wq_val 21 (by kernel_rfl) (fun w1 c1 => (op_load rfl (by kernel_rfl) (c1.cell 0 (u := .int .i64 _) rfl rfl))) ?_
            refine wq_dec 22 (by kernel_rfl) (fun w1 c1 => (op_lss rfl rfl)) (fun h71 => ?_) (fun h71 => ?_)
            · skip
              refine wq_val 23 (by kernel_rfl) (fun w1 c1 => (op_move (v := .bool true) rfl)) ?_
              refine wq_skip 24 (by kernel_rfl) ?_
              refine wq_skip 25 (by kernel_rfl) ?_
              refine wq_skip 26 (by kernel_rfl) ?_
              refine wq_val 27 (by kernel_rfl) (fun w1 c1 => (op_pick_t (v := .bool true) rfl rfl)) ?_
              exact leaf_q (sub_out 8 _ rfl (by kernel_rfl) ⟨(congrArg Value.bool (by rw [decide_eq_true h71] <;> rfl)), trivial⟩)
            · skip
              refine wq_val 23 (by kernel_rfl) (fun w1 c1 => (op_move (v := .bool false) rfl)) ?_
              refine wq_val 24 (by kernel_rfl) (fun w1 c1 => (op_fieldL (m := 1) (k := 1) rfl (by kernel_rfl) rfl)) ?_
              refine wq_val 25 (by kernel_rfl) (fun w1 c1 => (op_load rfl (by kernel_rfl) (c1.cell 0 (u := .int .i64 _) rfl rfl))) ?_
              refine wq_val 26 (by kernel_rfl) (fun w1 c1 => (op_gtr rfl rfl)) ?_
              refine wq_val 27 (by kernel_rfl) (fun w1 c1 => (op_pick_f (v := .bool _) rfl rfl)) ?_
              exact leaf_q (sub_out 8 _ rfl (by kernel_rfl) ⟨(congrArg Value.bool (by rw [decide_eq_false h71] <;> rfl)), trivial⟩)
          refine xm_next ?_
          refine cm_condB (by kernel_rfl) rfl (fun h72 => ?_) (fun h72 => ?_)
          · skip
            refine cm_seq ?_
            refine cm_region ?_
            refine lm_val 2 (by kernel_rfl) (fun w1 c1 => (op_assign (v := .int .i64 _) rfl)) ?_
            refine lm_nil ?_
            refine xm_next ?_
            refine cm_ret ?_
            refine xm_inR ?_
            refine xm_thenR ?_
            refine xm_lret ?_
            refine xm_inR ?_
            refine xm_lret ?_
            exact xm_retT rfl (by kernel_rfl) (show _ = Value.int .i64 _ from rfl) fun w1 c1 => ⟨(), rfl, hsub [] (by kernel_rfl) rfl w1 c1⟩
          · skip
            refine cm_skip ?_
            refine xm_inN ?_
            refine xm_next ?_
            refine cm_region ?_
            refine lm_ck (fun h73 => ?_)
            refine lm_val 28 (by kernel_rfl) (fun w1 c1 => (op_add rfl rfl h73)) ?_
            refine lm_val 12 (by kernel_rfl) (fun w1 c1 => (op_move (v := .int .i64 _) rfl)) ?_
            refine lm_nil ?_
            exact xm_lnext () (sub_cons (by kernel_rfl) rfl (sub_cons (by kernel_rfl) rfl (sub_cons (by kernel_rfl) rfl (sub_cons (by kernel_rfl) rfl sub_nil)))) (hsub [] (by kernel_rfl) rfl)
      · skip
        refine cm_exit ?_
        refine xm_thenE ?_
        refine xm_lexit ?_
        refine xm_here ?_
        exact xm_lnext () (sub_cons (by kernel_rfl) rfl sub_nil) (hsub [] (by kernel_rfl) rfl)
    intro s39 u40
    refine cm_join (σ := Unit) (ξ := Unit) (fun s104 u105 => []) (fun s104 u105 => []) ?_ ?_
    · skip
      refine cm_seq ?_
      refine cm_region ?_
      refine lm_val 29 (by kernel_rfl) (fun w1 c1 => (op_move (v := .slice _ _ _) rfl)) ?_
      refine lm_val 30 (by kernel_rfl) (fun w1 c1 => (op_lenN rfl (by kernel_rfl) hz_p0.2.2)) ?_
      refine lm_val 31 (by kernel_rfl) (fun w1 c1 => (op_move (v := .int .i64 _) rfl)) ?_
      refine lm_nil ?_
      refine xm_next ?_
      refine cm_block ?_
      refine cm_loop (σ := Int) (ξ := Unit) (fun s126 u127 => [(0, .slice A_p0 n_p0 c_p0), (29, .slice A_p0 n_p0 c_p0), (30, .int .i64 (List.length p0 : Int)), (31, .int .i64 s126)]) (fun s126 u127 => []) () ?_ ?_ ?_
      · exact (sub_cons (by kernel_rfl) rfl (sub_cons (by kernel_rfl) rfl (sub_cons (by kernel_rfl) rfl (sub_cons (by kernel_rfl) rfl sub_nil))))
      · exact hsub [] (by kernel_rfl) rfl
      intro s126 u127
      refine cm_seq ?_
      refine cm_region ?_
      refine lm_val 32 (by kernel_rfl) (fun w1 c1 => (op_lss rfl rfl)) ?_
      refine lm_nil ?_
      refine xm_next ?_
      refine cm_seq ?_
      refine cm_cond (by kernel_rfl) rfl (fun h128 => ?_) (fun h128 => ?_)
      · skip
        refine cm_skip ?_
        refine xm_next ?_
        refine cm_seq ?_
        refine cm_block ?_
        refine cm_seq ?_
        refine cm_region ?_
        refine lm_val 33 (by kernel_rfl) (fun w1 c1 => (op_move (v := .int .i64 _) rfl)) ?_
        refine lm_ck (fun h129 => ?_)
        refine lm_val 34 (by kernel_rfl) (fun w1 c1 => (op_indexA 2 rfl rfl (by kernel_rfl) ((hr_p0.old c1).addr h129.1 h129.2) hz_p0.2.2 h129.1 h129.2)) ?_
        refine lm_val 35 (by kernel_rfl) (fun w1 c1 => (op_loadR [.string ((ix p0 s126).ID), .int .i64 ((ix p0 s126).Persons)] rfl (by kernel_rfl) ((hr_p0.old c1).row h129.1 h129.2))) ?_
        refine lm_alloc 6 [.string (⟨#[]⟩ : ByteArray), .int .i64 0] (v := .agg #[.string (⟨#[]⟩ : ByteArray), .int .i64 0]) (by kernel_rfl) (by kernel_rfl) rfl ?_
        intro b130
        refine lm_val 5 (by kernel_rfl) (fun w1 c1 => (op_assign (v := .int .i64 _) rfl)) ?_
        refine lm_storeA 0 [.string _, .int .i64 _] [_, _] (H' := [blkE _ _ [_, _]]) (by kernel_rfl) rfl rfl (by kernel_rfl) rfl rfl (by kernel_rfl) rfl rfl ?_
        refine lm_nil ?_
        refine xm_next ?_
        refine cm_seq ?_
        refine cm_region ?_
        refine lm_val 36 (by kernel_rfl) (fun w1 c1 => (op_move (v := .slice _ _ _) rfl)) ?_
        refine lm_val 37 (by kernel_rfl) (fun w1 c1 => (op_move (v := .int .i64 _) rfl)) ?_
        refine lm_ck (fun h131 => ?_)
        refine lm_val 38 (by kernel_rfl) (fun w1 c1 => (op_sliceTo2 (l := p0) rfl rfl (by kernel_rfl) (by kernel_rfl) hz_p0 h131.1 h131.2)) ?_
        refine lm_val 39 (by kernel_rfl) (fun w1 c1 => (op_makeFuncC [.pointer (some ⟨_, _, _⟩)] rfl)) ?_
        refine lm_call 40 (V := (fun (r : Bool) (_u : Unit) => .bool r)) (HR := (fun (_r : Bool) (_u : Unit) => [])) (by kernel_rfl) (fun w1 => op_call (by kernel_rfl)) (fun r1 hr1 w1 c1 => m_slices_ContainsFunc_household_people_1_ok N w1 (List.take (Int.toNat s126) p0) (ix p0 s126) A_p0 (Int.toNat s126) c_p0 b130 ((hr_p0.old c1).take h131.1 h131.2) (hz_p0.take h131.1 h131.2) (c1.blk 0 rfl) r1 hr1) ?_
        intro r132 u133
        refine lm_nil ?_
        refine xm_next ?_
        refine cm_condB (by kernel_rfl) rfl (fun h134 => ?_) (fun h134 => ?_)
        · skip
          refine cm_seq ?_
          refine cm_region ?_
          refine lm_val 2 (by kernel_rfl) (fun w1 c1 => (op_assign (v := .int .i64 _) rfl)) ?_
          refine lm_nil ?_
          refine xm_next ?_
          refine cm_ret ?_
          refine xm_inR ?_
          refine xm_thenR ?_
          refine xm_lret ?_
          refine xm_inR ?_
          refine xm_lret ?_
          exact xm_retT rfl (by kernel_rfl) (show _ = Value.int .i64 _ from rfl) fun w1 c1 => ⟨(), rfl, hsub [] (by kernel_rfl) rfl w1 c1⟩
        · skip
          refine cm_skip ?_
          refine xm_inN ?_
          refine xm_next ?_
          refine cm_region ?_
          refine lm_ck (fun h135 => ?_)
          refine lm_val 41 (by kernel_rfl) (fun w1 c1 => (op_add rfl rfl h135)) ?_
          refine lm_val 31 (by kernel_rfl) (fun w1 c1 => (op_move (v := .int .i64 _) rfl)) ?_
          refine lm_nil ?_
          exact xm_lnext () (sub_cons (by kernel_rfl) rfl (sub_cons (by kernel_rfl) rfl (sub_cons (by kernel_rfl) rfl (sub_cons (by kernel_rfl) rfl sub_nil)))) (hsub [] (by kernel_rfl) rfl)
      · skip
        refine cm_exit ?_
        refine xm_thenE ?_
        refine xm_lexit ?_
        refine xm_here ?_
        exact xm_lnext () sub_nil (hsub [] (by kernel_rfl) rfl)
    intro s104 u105
    refine cm_seq ?_
    refine cm_region ?_
    refine lm_val 2 (by kernel_rfl) (fun w1 c1 => (op_assign (v := .int .i64 _) rfl)) ?_
    refine lm_nil ?_
    refine xm_next ?_
    refine cm_ret ?_
    exact xm_retT rfl (by kernel_rfl) (show _ = Value.int .i64 _ from rfl) fun w1 c1 => ⟨(), rfl, hsub [] (by kernel_rfl) rfl w1 c1⟩
/-- household.valid -/
def m_household_valid (_N : Nat) (p0 : ApiWindow) : Option (Bool) :=
  some ((((decide (0 ≤ p0.From)) && (decide (p0.From ≤ p0.To))) && (decide (p0.To ≤ 3155760000))))
set_option maxRecDepth 20000 in
theorem m_household_valid_ok (N : Nat) (w0 : World) (p0 : ApiWindow)   (r : Bool) (hr : m_household_valid N p0 = some r) :
    Calls Try.prog 57 [.agg #[.int .i64 p0.From, .int .i64 p0.To]].toArray w0 fun x w1 => ∃ u, x = .returned ((fun (r : Bool) (_u : Unit) => .bool r) r u) ∧ Hs w0 ((fun (_r : Bool) (_u : Unit) => []) r u) w1 := by
  refine calls_cm (n := 18) (R := fun r x w1 => ∃ u, x = .returned ((fun (r : Bool) (_u : Unit) => .bool r) r u) ∧ Hs w0 ((fun (_r : Bool) (_u : Unit) => []) r u) w1) Try.func57 rfl rfl (Nat.le_of_ble_eq_true rfl) ?_ r hr
  unfold m_household_valid
  refine cm_seq ?_
  refine cm_region ?_
  refine lm_box 1 [.int .i64 _, .int .i64 _] (by kernel_rfl) rfl ?_
  intro b5
  refine lm_val 2 (by kernel_rfl) (fun w1 c1 => (op_assign (v := .bool false) rfl)) ?_
  refine lm_nil ?_
  refine xm_next ?_
  refine cm_seq ?_
  refine cm_cutE [(2, .bool (((decide (0 ≤ p0.From)) && (decide (p0.From ≤ p0.To))) && (decide (p0.To ≤ 3155760000))))] ?_ ?_
  · skip
    refine wq_val 3 (by kernel_rfl) (fun w1 c1 => (op_fieldL (m := 0) (k := 0) rfl (by kernel_rfl) rfl)) ?_
    refine wq_val 4 (by kernel_rfl) (fun w1 c1 => (op_load rfl (by kernel_rfl) (c1.cell 0 (u := .int .i64 _) rfl rfl))) ?_
    refine wq_dec 5 (by kernel_rfl) (fun w1 c1 => (op_leq rfl rfl)) (fun h6 => ?_) (fun h6 => ?_)
    · skip
      refine wq_val 6 (by kernel_rfl) (fun w1 c1 => (op_move (v := .bool true) rfl)) ?_
      refine wq_val 7 (by kernel_rfl) (fun w1 c1 => (op_fieldL (m := 0) (k := 0) rfl (by kernel_rfl) rfl)) ?_
      refine wq_val 8 (by kernel_rfl) (fun w1 c1 => (op_load rfl (by kernel_rfl) (c1.cell 0 (u := .int .i64 _) rfl rfl))) ?_
      refine wq_val 9 (by kernel_rfl) (fun w1 c1 => (op_fieldL (m := 1) (k := 1) rfl (by kernel_rfl) rfl)) ?_
      refine wq_val 10 (by kernel_rfl) (fun w1 c1 => (op_load rfl (by kernel_rfl) (c1.cell 0 (u := .int .i64 _) rfl rfl))) ?_
      refine wq_dec 11 (by kernel_rfl) (fun w1 c1 => (op_leq rfl rfl)) (fun h7 => ?_) (fun h7 => ?_)
      · skip
        refine wq_val 12 (by kernel_rfl) (fun w1 c1 => (op_pick_t (v := .bool true) rfl rfl)) ?_
        refine wq_val 13 (by kernel_rfl) (fun w1 c1 => (op_move (v := .bool true) rfl)) ?_
        refine wq_val 14 (by kernel_rfl) (fun w1 c1 => (op_fieldL (m := 1) (k := 1) rfl (by kernel_rfl) rfl)) ?_
        refine wq_val 15 (by kernel_rfl) (fun w1 c1 => (op_load rfl (by kernel_rfl) (c1.cell 0 (u := .int .i64 _) rfl rfl))) ?_
        refine wq_val 16 (by kernel_rfl) (fun w1 c1 => (op_leq rfl rfl)) ?_
        refine wq_val 17 (by kernel_rfl) (fun w1 c1 => (op_pick_t (v := .bool _) rfl rfl)) ?_
        refine wq_val 2 (by kernel_rfl) (fun w1 c1 => (op_assign (v := .bool _) rfl)) ?_
        exact leaf_q (sub_out 16 _ rfl (by kernel_rfl) ⟨(congrArg Value.bool (by rw [decide_eq_true h6, decide_eq_true h7] <;> rfl)), trivial⟩)
      · skip
        refine wq_val 12 (by kernel_rfl) (fun w1 c1 => (op_pick_t (v := .bool false) rfl rfl)) ?_
        refine wq_val 13 (by kernel_rfl) (fun w1 c1 => (op_move (v := .bool false) rfl)) ?_
        refine wq_skip 14 (by kernel_rfl) ?_
        refine wq_skip 15 (by kernel_rfl) ?_
        refine wq_skip 16 (by kernel_rfl) ?_
        refine wq_val 17 (by kernel_rfl) (fun w1 c1 => (op_pick_f (v := .bool false) rfl rfl)) ?_
        refine wq_val 2 (by kernel_rfl) (fun w1 c1 => (op_assign (v := .bool false) rfl)) ?_
        exact leaf_q (sub_out 16 _ rfl (by kernel_rfl) ⟨(congrArg Value.bool (by rw [decide_eq_true h6, decide_eq_false h7] <;> rfl)), trivial⟩)
    · skip
      refine wq_val 6 (by kernel_rfl) (fun w1 c1 => (op_move (v := .bool false) rfl)) ?_
      refine wq_skip 7 (by kernel_rfl) ?_
      refine wq_skip 8 (by kernel_rfl) ?_
      refine wq_skip 9 (by kernel_rfl) ?_
      refine wq_skip 10 (by kernel_rfl) ?_
      refine wq_skip 11 (by kernel_rfl) ?_
      refine wq_val 12 (by kernel_rfl) (fun w1 c1 => (op_pick_f (v := .bool false) rfl rfl)) ?_
      refine wq_val 13 (by kernel_rfl) (fun w1 c1 => (op_move (v := .bool false) rfl)) ?_
      refine wq_skip 14 (by kernel_rfl) ?_
      refine wq_skip 15 (by kernel_rfl) ?_
      refine wq_skip 16 (by kernel_rfl) ?_
      refine wq_val 17 (by kernel_rfl) (fun w1 c1 => (op_pick_f (v := .bool false) rfl rfl)) ?_
      refine wq_val 2 (by kernel_rfl) (fun w1 c1 => (op_assign (v := .bool false) rfl)) ?_
      exact leaf_q (sub_out 16 _ rfl (by kernel_rfl) ⟨(congrArg Value.bool (by rw [decide_eq_false h6] <;> rfl)), trivial⟩)
  refine xm_next ?_
  refine cm_ret ?_
  exact xm_retT rfl (by kernel_rfl) (show _ = Value.bool _ from rfl) fun w1 c1 => ⟨(), rfl, hsub [] (by kernel_rfl) rfl w1 c1⟩
/-- household.common -/
def m_household_common (_N : Nat) (p0 : ApiWindow) (p1 : ApiWindow) : Option (ApiWindow) :=
  some ((ApiWindow.mk (max p0.From p1.From) (min p0.To p1.To)))
set_option maxRecDepth 20000 in
theorem m_household_common_ok (N : Nat) (w0 : World) (p0 : ApiWindow) (p1 : ApiWindow)   (r : ApiWindow) (hr : m_household_common N p0 p1 = some r) :
    Calls Try.prog 60 [.agg #[.int .i64 p0.From, .int .i64 p0.To], .agg #[.int .i64 p1.From, .int .i64 p1.To]].toArray w0 fun x w1 => ∃ u, x = .returned ((fun (r : ApiWindow) (_u : Unit) => .agg #[.int .i64 r.From, .int .i64 r.To]) r u) ∧ Hs w0 ((fun (_r : ApiWindow) (_u : Unit) => []) r u) w1 := by
  refine calls_cm (n := 16) (R := fun r x w1 => ∃ u, x = .returned ((fun (r : ApiWindow) (_u : Unit) => .agg #[.int .i64 r.From, .int .i64 r.To]) r u) ∧ Hs w0 ((fun (_r : ApiWindow) (_u : Unit) => []) r u) w1) Try.func60 rfl rfl (Nat.le_of_ble_eq_true rfl) ?_ r hr
  unfold m_household_common
  refine cm_seq ?_
  refine cm_region ?_
  refine lm_box 2 [.int .i64 _, .int .i64 _] (by kernel_rfl) rfl ?_
  intro b5
  refine lm_box 3 [.int .i64 _, .int .i64 _] (by kernel_rfl) rfl ?_
  intro b6
  refine lm_alloc 4 [.int .i64 0, .int .i64 0] (v := .agg #[.int .i64 0, .int .i64 0]) (by kernel_rfl) (by kernel_rfl) rfl ?_
  intro b7
  refine lm_nil ?_
  refine xm_next ?_
  refine cm_seq ?_
  refine cm_region ?_
  refine lm_val 5 (by kernel_rfl) (fun w1 c1 => (op_fieldL (m := 0) (k := 0) rfl (by kernel_rfl) rfl)) ?_
  refine lm_val 6 (by kernel_rfl) (fun w1 c1 => (op_load rfl (by kernel_rfl) (c1.cell 2 (u := .int .i64 _) rfl rfl))) ?_
  refine lm_val 7 (by kernel_rfl) (fun w1 c1 => (op_fieldL (m := 0) (k := 0) rfl (by kernel_rfl) rfl)) ?_
  refine lm_val 8 (by kernel_rfl) (fun w1 c1 => (op_load rfl (by kernel_rfl) (c1.cell 1 (u := .int .i64 _) rfl rfl))) ?_
  refine lm_val 9 (by kernel_rfl) (fun w1 c1 => (op_max rfl rfl)) ?_
  refine lm_val 10 (by kernel_rfl) (fun w1 c1 => (op_fieldL (m := 1) (k := 1) rfl (by kernel_rfl) rfl)) ?_
  refine lm_val 11 (by kernel_rfl) (fun w1 c1 => (op_load rfl (by kernel_rfl) (c1.cell 2 (u := .int .i64 _) rfl rfl))) ?_
  refine lm_val 12 (by kernel_rfl) (fun w1 c1 => (op_fieldL (m := 1) (k := 1) rfl (by kernel_rfl) rfl)) ?_
  refine lm_val 13 (by kernel_rfl) (fun w1 c1 => (op_load rfl (by kernel_rfl) (c1.cell 1 (u := .int .i64 _) rfl rfl))) ?_
  refine lm_val 14 (by kernel_rfl) (fun w1 c1 => (op_min rfl rfl)) ?_
  refine lm_val 15 (by kernel_rfl) (fun w1 c1 => (op_build (z := [.int .i64 0, .int .i64 0]) (tab := [(0, 1), (1, 1)]) (cs := [.int .i64 _, .int .i64 _]) [(0, [.int .i64 _]), (1, [.int .i64 _])] (by kernel_rfl) (by kernel_rfl) (fillOk_cons rfl rfl rfl (fillOk_cons rfl rfl rfl fillOk_nil)) rfl)) ?_
  refine lm_storeA 0 [.int .i64 _, .int .i64 _] [_, _] (H' := [blkE _ _ [_, _], _, _]) (by kernel_rfl) rfl rfl (by kernel_rfl) rfl rfl (by kernel_rfl) rfl rfl ?_
  refine lm_nil ?_
  refine xm_next ?_
  refine cm_ret ?_
  exact xm_retC rfl (by kernel_rfl) (show _ = Value.pointer (some ⟨_, 0, none⟩) from rfl) (by kernel_rfl) (fun w1 c1 => c1.cells 0 (ds := [.int .i64 _, .int .i64 _]) rfl rfl) fun w1 c1 => ⟨(), rfl, hsub [] (by kernel_rfl) rfl w1 c1⟩
/-- household.empty -/
def m_household_empty (_N : Nat) (p0 : ApiWindow) : Option (Bool) :=
  some ((decide (p0.To ≤ p0.From)))
set_option maxRecDepth 20000 in
theorem m_household_empty_ok (N : Nat) (w0 : World) (p0 : ApiWindow)   (r : Bool) (hr : m_household_empty N p0 = some r) :
    Calls Try.prog 59 [.agg #[.int .i64 p0.From, .int .i64 p0.To]].toArray w0 fun x w1 => ∃ u, x = .returned ((fun (r : Bool) (_u : Unit) => .bool r) r u) ∧ Hs w0 ((fun (_r : Bool) (_u : Unit) => []) r u) w1 := by
  refine calls_cm (n := 8) (R := fun r x w1 => ∃ u, x = .returned ((fun (r : Bool) (_u : Unit) => .bool r) r u) ∧ Hs w0 ((fun (_r : Bool) (_u : Unit) => []) r u) w1) Try.func59 rfl rfl (Nat.le_of_ble_eq_true rfl) ?_ r hr
  unfold m_household_empty
  refine cm_seq ?_
  refine cm_region ?_
  refine lm_box 1 [.int .i64 _, .int .i64 _] (by kernel_rfl) rfl ?_
  intro b5
  refine lm_val 2 (by kernel_rfl) (fun w1 c1 => (op_assign (v := .bool false) rfl)) ?_
  refine lm_nil ?_
  refine xm_next ?_
  refine cm_seq ?_
  refine cm_region ?_
  refine lm_val 3 (by kernel_rfl) (fun w1 c1 => (op_fieldL (m := 0) (k := 0) rfl (by kernel_rfl) rfl)) ?_
  refine lm_val 4 (by kernel_rfl) (fun w1 c1 => (op_load rfl (by kernel_rfl) (c1.cell 0 (u := .int .i64 _) rfl rfl))) ?_
  refine lm_val 5 (by kernel_rfl) (fun w1 c1 => (op_fieldL (m := 1) (k := 1) rfl (by kernel_rfl) rfl)) ?_
  refine lm_val 6 (by kernel_rfl) (fun w1 c1 => (op_load rfl (by kernel_rfl) (c1.cell 0 (u := .int .i64 _) rfl rfl))) ?_
  refine lm_val 7 (by kernel_rfl) (fun w1 c1 => (op_geq rfl rfl)) ?_
  refine lm_val 2 (by kernel_rfl) (fun w1 c1 => (op_assign (v := .bool _) rfl)) ?_
  refine lm_nil ?_
  refine xm_next ?_
  refine cm_ret ?_
  exact xm_retT rfl (by kernel_rfl) (show _ = Value.bool _ from rfl) fun w1 c1 => ⟨(), rfl, hsub [] (by kernel_rfl) rfl w1 c1⟩
/-- household.Check$1 -/
def m_household_Check_1 (N : Nat) (p0 : ApiAssign) (q0 : ApiAssign) : Option (Bool) :=
  callIf (decide (p0.Container = q0.Container) = true) (m_household_common N q0.When p0.When) fun r6 => callIf (decide (p0.Container = q0.Container) = true) (m_household_empty N r6) fun r8 => some (((decide (p0.Container = q0.Container)) && (!r8)))
set_option maxRecDepth 20000 in
theorem m_household_Check_1_ok (N : Nat) (w0 : World) (p0 : ApiAssign) (q0 : ApiAssign) (b_q0 : Nat) (hb_q0 : Blk w0 b_q0 93 [.int .i64 q0.Container, .int .i64 q0.Household, .int .i64 q0.When.From, .int .i64 q0.When.To]) (r : Bool) (hr : m_household_Check_1 N p0 q0 = some r) :
    Calls Try.prog 58 [.agg #[.int .i64 p0.Container, .int .i64 p0.Household, .int .i64 p0.When.From, .int .i64 p0.When.To], .pointer (some ⟨b_q0, 0, none⟩)].toArray w0 fun x w1 => ∃ u, x = .returned ((fun (r : Bool) (_u : Unit) => .bool r) r u) ∧ Hs w0 ((fun (_r : Bool) (_u : Unit) => []) r u) w1 := by
  refine calls_cm (n := 18) (R := fun r x w1 => ∃ u, x = .returned ((fun (r : Bool) (_u : Unit) => .bool r) r u) ∧ Hs w0 ((fun (_r : Bool) (_u : Unit) => []) r u) w1) Try.func58 rfl rfl (Nat.le_of_ble_eq_true rfl) ?_ r hr
  unfold m_household_Check_1
  refine cm_seq ?_
  refine cm_region ?_
  refine lm_box 2 [.int .i64 _, .int .i64 _, .int .i64 _, .int .i64 _] (by kernel_rfl) rfl ?_
  intro b5
  refine lm_val 3 (by kernel_rfl) (fun w1 c1 => (op_assign (v := .bool false) rfl)) ?_
  refine lm_nil ?_
  refine xm_next ?_
  refine cm_seq ?_
  refine cm_callIf fun r6 h7 => ?_
  refine cm_callIf fun r8 h9 => ?_
  refine cm_cutE [(3, .bool ((decide (p0.Container = q0.Container)) && (!r8)))] ?_ ?_
  · skip
    refine wq_val 4 (by kernel_rfl) (fun w1 c1 => (op_fieldL (m := 0) (k := 0) rfl (by kernel_rfl) rfl)) ?_
    refine wq_val 5 (by kernel_rfl) (fun w1 c1 => (op_load rfl (by kernel_rfl) (c1.cell 0 (u := .int .i64 _) rfl rfl))) ?_
    refine wq_val 6 (by kernel_rfl) (fun w1 c1 => (op_fieldL (m := 0) (k := 0) rfl (by kernel_rfl) rfl)) ?_
    refine wq_val 7 (by kernel_rfl) (fun w1 c1 => (op_load rfl (by kernel_rfl) (c1.ocell (hb_q0.at_ 0 (u := .int .i64 _) rfl)))) ?_
    refine wq_dec 8 (by kernel_rfl) (fun w1 c1 => (op_eql rfl rfl)) (fun h10 => ?_) (fun h10 => ?_)
    · skip
      refine wq_val 9 (by kernel_rfl) (fun w1 c1 => (op_move (v := .bool true) rfl)) ?_
      refine wq_val 10 (by kernel_rfl) (fun w1 c1 => (op_fieldL (m := 2) (k := 2) rfl (by kernel_rfl) rfl)) ?_
      refine wq_val 11 (by kernel_rfl) (fun w1 c1 => (op_loadR [.int .i64 _, .int .i64 _] rfl (by kernel_rfl) (c1.ocells hb_q0 rfl))) ?_
      refine wq_val 12 (by kernel_rfl) (fun w1 c1 => (op_fieldL (m := 2) (k := 2) rfl (by kernel_rfl) rfl)) ?_
      refine wq_val 13 (by kernel_rfl) (fun w1 c1 => (op_loadR [.int .i64 _, .int .i64 _] rfl (by kernel_rfl) (c1.cells 0 rfl rfl))) ?_
      refine wq_call 14 (by kernel_rfl) (fun w1 c1 => op_call (by kernel_rfl)) (fun w1 c1 => (m_household_common_ok N w1 q0.When p0.When  r6 (h7 (by rw [decide_eq_true h10] <;> rfl))).mono (fun _ _ ⟨_, hx, hu⟩ => ⟨hx, c1.call hu⟩)) ?_
      refine wq_call 15 (by kernel_rfl) (fun w1 c1 => op_call (by kernel_rfl)) (fun w1 c1 => (m_household_empty_ok N w1 r6  r8 (h9 (by rw [decide_eq_true h10] <;> rfl))).mono (fun _ _ ⟨_, hx, hu⟩ => ⟨hx, c1.call hu⟩)) ?_
      refine wq_val 16 (by kernel_rfl) (fun w1 c1 => (op_not rfl)) ?_
      refine wq_val 17 (by kernel_rfl) (fun w1 c1 => (op_pick_t (v := .bool _) rfl rfl)) ?_
      refine wq_val 3 (by kernel_rfl) (fun w1 c1 => (op_assign (v := .bool _) rfl)) ?_
      exact leaf_q (sub_out 15 _ rfl (by kernel_rfl) ⟨(congrArg Value.bool (by rw [decide_eq_true h10] <;> rfl)), trivial⟩)
    · skip
      refine wq_val 9 (by kernel_rfl) (fun w1 c1 => (op_move (v := .bool false) rfl)) ?_
      refine wq_skip 10 (by kernel_rfl) ?_
      refine wq_skip 11 (by kernel_rfl) ?_
      refine wq_skip 12 (by kernel_rfl) ?_
      refine wq_skip 13 (by kernel_rfl) ?_
      refine wq_skip 14 (by kernel_rfl) ?_
      refine wq_skip 15 (by kernel_rfl) ?_
      refine wq_skip 16 (by kernel_rfl) ?_
      refine wq_val 17 (by kernel_rfl) (fun w1 c1 => (op_pick_f (v := .bool false) rfl rfl)) ?_
      refine wq_val 3 (by kernel_rfl) (fun w1 c1 => (op_assign (v := .bool false) rfl)) ?_
      exact leaf_q (sub_out 15 _ rfl (by kernel_rfl) ⟨(congrArg Value.bool (by rw [decide_eq_false h10] <;> rfl)), trivial⟩)
  refine xm_next ?_
  refine cm_ret ?_
  exact xm_retT rfl (by kernel_rfl) (show _ = Value.bool _ from rfl) fun w1 c1 => ⟨(), rfl, hsub [] (by kernel_rfl) rfl w1 c1⟩
/-- slices.IndexFunc -/
def m_slices_IndexFunc_household_Check_1 (N : Nat) (p0 : (List ApiAssign)) (p1c0 : ApiAssign) : Option (Int) :=
  (andThen
    (loopM (fun (s47 : Int) =>
      (if s47 < (List.length p0 : Int) then
        ck ((0 : Int) ≤ s47 ∧ s47 < (List.length p0 : Int)) (
          Option.bind (m_household_Check_1 N (ix p0 s47) p1c0) fun r51 => (if r51 = true then
            some (.done (.done (s47)))
          else
            ck (I64 (s47 + (1 : Int))) (
              some (.next (s47 + (1 : Int))))))
      else
        some (.done (.next ())))) N (0 : Int))
  fun (_s29 : Unit) =>
    some ((-1 : Int)))
set_option maxRecDepth 20000 in
theorem m_slices_IndexFunc_household_Check_1_ok (N : Nat) (w0 : World) (p0 : (List ApiAssign)) (p1c0 : ApiAssign) (A_p0 : Option Addr) (n_p0 c_p0 : Nat) (b_p1c0 : Nat) (hr_p0 : RdE w0 4 encApiAssign A_p0 p0) (hz_p0 : SW A_p0 n_p0 c_p0 (List.length p0)) (hb_p1c0 : Blk w0 b_p1c0 93 [.int .i64 p1c0.Container, .int .i64 p1c0.Household, .int .i64 p1c0.When.From, .int .i64 p1c0.When.To]) (r : Int) (hr : m_slices_IndexFunc_household_Check_1 N p0 p1c0 = some r) :
    Calls Try.prog 70 [.slice A_p0 n_p0 c_p0, .func (.func 58) #[] #[.pointer (some ⟨b_p1c0, 0, none⟩)]].toArray w0 fun x w1 => ∃ u, x = .returned ((fun (r : Int) (_u : Unit) => .int .i64 r) r u) ∧ Hs w0 ((fun (_r : Int) (_u : Unit) => []) r u) w1 := by
  refine calls_cm (n := 19) (R := fun r x w1 => ∃ u, x = .returned ((fun (r : Int) (_u : Unit) => .int .i64 r) r u) ∧ Hs w0 ((fun (_r : Int) (_u : Unit) => []) r u) w1) Try.func70 rfl rfl (Nat.le_of_ble_eq_true rfl) ?_ r hr
  unfold m_slices_IndexFunc_household_Check_1
  refine cm_seq ?_
  refine cm_region ?_
  refine lm_val 4 (by kernel_rfl) (fun w1 c1 => (op_assign (v := .int .i64 _) rfl)) ?_
  refine lm_nil ?_
  refine xm_next ?_
  refine cm_join (σ := Unit) (ξ := Unit) (fun s29 u30 => []) (fun s29 u30 => []) ?_ ?_
  · skip
    refine cm_seq ?_
    refine cm_region ?_
    refine lm_val 6 (by kernel_rfl) (fun w1 c1 => (op_move (v := .slice _ _ _) rfl)) ?_
    refine lm_val 7 (by kernel_rfl) (fun w1 c1 => (op_lenN rfl (by kernel_rfl) hz_p0.2.2)) ?_
    refine lm_val 8 (by kernel_rfl) (fun w1 c1 => (op_move (v := .int .i64 _) rfl)) ?_
    refine lm_nil ?_
    refine xm_next ?_
    refine cm_block ?_
    refine cm_loop (σ := Int) (ξ := Unit) (fun s47 u48 => [(0, .slice A_p0 n_p0 c_p0), (1, .func (.func 58) #[] #[.pointer (some ⟨b_p1c0, 0, none⟩)]), (7, .int .i64 (List.length p0 : Int)), (8, .int .i64 s47)]) (fun s47 u48 => []) () ?_ ?_ ?_
    · exact (sub_cons (by kernel_rfl) rfl (sub_cons (by kernel_rfl) rfl (sub_cons (by kernel_rfl) rfl (sub_cons (by kernel_rfl) rfl sub_nil))))
    · exact hsub [] (by kernel_rfl) rfl
    intro s47 u48
    refine cm_seq ?_
    refine cm_region ?_
    refine lm_val 9 (by kernel_rfl) (fun w1 c1 => (op_lss rfl rfl)) ?_
    refine lm_nil ?_
    refine xm_next ?_
    refine cm_seq ?_
    refine cm_cond (by kernel_rfl) rfl (fun h49 => ?_) (fun h49 => ?_)
    · skip
      refine cm_skip ?_
      refine xm_next ?_
      refine cm_seq ?_
      refine cm_block ?_
      refine cm_seq ?_
      refine cm_region ?_
      refine lm_val 10 (by kernel_rfl) (fun w1 c1 => (op_move (v := .int .i64 _) rfl)) ?_
      refine lm_val 5 (by kernel_rfl) (fun w1 c1 => (op_assign (v := .int .i64 _) rfl)) ?_
      refine lm_nil ?_
      refine xm_next ?_
      refine cm_seq ?_
      refine cm_region ?_
      refine lm_val 11 (by kernel_rfl) (fun w1 c1 => (op_move (v := .func _ _ _) rfl)) ?_
      refine lm_val 12 (by kernel_rfl) (fun w1 c1 => (op_move (v := .slice _ _ _) rfl)) ?_
      refine lm_val 13 (by kernel_rfl) (fun w1 c1 => (op_move (v := .int .i64 _) rfl)) ?_
      refine lm_ck (fun h50 => ?_)
      refine lm_val 14 (by kernel_rfl) (fun w1 c1 => (op_indexA 4 rfl rfl (by kernel_rfl) ((hr_p0.old c1).addr h50.1 h50.2) hz_p0.2.2 h50.1 h50.2)) ?_
      refine lm_val 15 (by kernel_rfl) (fun w1 c1 => (op_loadR [.int .i64 ((ix p0 s47).Container), .int .i64 ((ix p0 s47).Household), .int .i64 ((ix p0 s47).When.From), .int .i64 ((ix p0 s47).When.To)] rfl (by kernel_rfl) ((hr_p0.old c1).row h50.1 h50.2))) ?_
      refine lm_call 16 (V := (fun (r : Bool) (_u : Unit) => .bool r)) (HR := (fun (_r : Bool) (_u : Unit) => [])) (by kernel_rfl) (fun w1 => op_callv rfl (by kernel_rfl)) (fun r1 hr1 w1 c1 => m_household_Check_1_ok N w1 (ix p0 s47) p1c0 b_p1c0 (c1.oblk hb_p1c0) r1 hr1) ?_
      intro r51 u52
      refine lm_nil ?_
      refine xm_next ?_
      refine cm_condB (by kernel_rfl) rfl (fun h53 => ?_) (fun h53 => ?_)
      · skip
        refine cm_seq ?_
        refine cm_region ?_
        refine lm_val 17 (by kernel_rfl) (fun w1 c1 => (op_move (v := .int .i64 _) rfl)) ?_
        refine lm_val 4 (by kernel_rfl) (fun w1 c1 => (op_assign (v := .int .i64 _) rfl)) ?_
        refine lm_nil ?_
        refine xm_next ?_
        refine cm_ret ?_
        refine xm_inR ?_
        refine xm_thenR ?_
        refine xm_lret ?_
        refine xm_inR ?_
        refine xm_lret ?_
        exact xm_retT rfl (by kernel_rfl) (show _ = Value.int .i64 _ from rfl) fun w1 c1 => ⟨(), rfl, hsub [] (by kernel_rfl) rfl w1 c1⟩
      · skip
        refine cm_skip ?_
        refine xm_inN ?_
        refine xm_next ?_
        refine cm_region ?_
        refine lm_ck (fun h54 => ?_)
        refine lm_val 18 (by kernel_rfl) (fun w1 c1 => (op_add rfl rfl h54)) ?_
        refine lm_val 8 (by kernel_rfl) (fun w1 c1 => (op_move (v := .int .i64 _) rfl)) ?_
        refine lm_nil ?_
        exact xm_lnext () (sub_cons (by kernel_rfl) rfl (sub_cons (by kernel_rfl) rfl (sub_cons (by kernel_rfl) rfl (sub_cons (by kernel_rfl) rfl sub_nil)))) (hsub [] (by kernel_rfl) rfl)
    · skip
      refine cm_exit ?_
      refine xm_thenE ?_
      refine xm_lexit ?_
      refine xm_here ?_
      exact xm_lnext () sub_nil (hsub [] (by kernel_rfl) rfl)
  intro s29 u30
  refine cm_seq ?_
  refine cm_region ?_
  refine lm_val 4 (by kernel_rfl) (fun w1 c1 => (op_assign (v := .int .i64 _) rfl)) ?_
  refine lm_nil ?_
  refine xm_next ?_
  refine cm_ret ?_
  exact xm_retT rfl (by kernel_rfl) (show _ = Value.int .i64 _ from rfl) fun w1 c1 => ⟨(), rfl, hsub [] (by kernel_rfl) rfl w1 c1⟩
/-- slices.ContainsFunc -/
def m_slices_ContainsFunc_household_Check_1 (N : Nat) (p0 : (List ApiAssign)) (p1c0 : ApiAssign) : Option (Bool) :=
  Option.bind (m_slices_IndexFunc_household_Check_1 N p0 p1c0) fun r5 => some ((decide (0 ≤ r5)))
set_option maxRecDepth 20000 in
theorem m_slices_ContainsFunc_household_Check_1_ok (N : Nat) (w0 : World) (p0 : (List ApiAssign)) (p1c0 : ApiAssign) (A_p0 : Option Addr) (n_p0 c_p0 : Nat) (b_p1c0 : Nat) (hr_p0 : RdE w0 4 encApiAssign A_p0 p0) (hz_p0 : SW A_p0 n_p0 c_p0 (List.length p0)) (hb_p1c0 : Blk w0 b_p1c0 93 [.int .i64 p1c0.Container, .int .i64 p1c0.Household, .int .i64 p1c0.When.From, .int .i64 p1c0.When.To]) (r : Bool) (hr : m_slices_ContainsFunc_household_Check_1 N p0 p1c0 = some r) :
    Calls Try.prog 61 [.slice A_p0 n_p0 c_p0, .func (.func 58) #[] #[.pointer (some ⟨b_p1c0, 0, none⟩)]].toArray w0 fun x w1 => ∃ u, x = .returned ((fun (r : Bool) (_u : Unit) => .bool r) r u) ∧ Hs w0 ((fun (_r : Bool) (_u : Unit) => []) r u) w1 := by
  refine calls_cm (n := 9) (R := fun r x w1 => ∃ u, x = .returned ((fun (r : Bool) (_u : Unit) => .bool r) r u) ∧ Hs w0 ((fun (_r : Bool) (_u : Unit) => []) r u) w1) Try.func61 rfl rfl (Nat.le_of_ble_eq_true rfl) ?_ r hr
  unfold m_slices_ContainsFunc_household_Check_1
  refine cm_seq ?_
  refine cm_region ?_
  refine lm_val 4 (by kernel_rfl) (fun w1 c1 => (op_assign (v := .bool false) rfl)) ?_
  refine lm_nil ?_
  refine xm_next ?_
  refine cm_seq ?_
  refine cm_region ?_
  refine lm_val 5 (by kernel_rfl) (fun w1 c1 => (op_move (v := .slice _ _ _) rfl)) ?_
  refine lm_val 6 (by kernel_rfl) (fun w1 c1 => (op_move (v := .func _ _ _) rfl)) ?_
  refine lm_call 7 (V := (fun (r : Int) (_u : Unit) => .int .i64 r)) (HR := (fun (_r : Int) (_u : Unit) => [])) (by kernel_rfl) (fun w1 => op_call (by kernel_rfl)) (fun r1 hr1 w1 c1 => m_slices_IndexFunc_household_Check_1_ok N w1 p0 p1c0 A_p0 n_p0 c_p0 b_p1c0 (hr_p0.old c1) hz_p0 (c1.oblk hb_p1c0) r1 hr1) ?_
  intro r5 u6
  refine lm_val 8 (by kernel_rfl) (fun w1 c1 => (op_geq rfl rfl)) ?_
  refine lm_val 4 (by kernel_rfl) (fun w1 c1 => (op_assign (v := .bool _) rfl)) ?_
  refine lm_nil ?_
  refine xm_next ?_
  refine cm_ret ?_
  exact xm_retT rfl (by kernel_rfl) (show _ = Value.bool _ from rfl) fun w1 c1 => ⟨(), rfl, hsub [] (by kernel_rfl) rfl w1 c1⟩
/-- household.Check -/
def m_household_Check (N : Nat) (p0 : (List ApiHousehold)) (p1 : Int) (p2 : (List ApiAssign)) : Option (Int) :=
  (if ((decide (p1 < 0)) || (decide (256 < p1))) = true then
    some ((1 : Int))
  else
    Option.bind (m_household_people N p0) fun r7 => (if r7 ≠ 0 then
      some (r7)
    else
      (if 512 < (List.length p2 : Int) then
        some ((8 : Int))
      else
        (andThen
          (loopM (fun (s78 : Int) =>
            (if s78 < (List.length p2 : Int) then
              ck ((0 : Int) ≤ s78 ∧ s78 < (List.length p2 : Int)) (
                (if ((((decide ((ix p2 s78).Container < 0)) || (decide (p1 ≤ (ix p2 s78).Container))) || (decide ((ix p2 s78).Household < 0))) || (decide ((List.length p0 : Int) ≤ (ix p2 s78).Household))) = true then
                  some (.done (.done ((7 : Int))))
                else
                  Option.bind (m_household_valid N ((ix p2 s78).When)) fun r87 => (if (!r87) = true then
                    some (.done (.done ((1 : Int))))
                  else
                    ck (I64 (s78 + (1 : Int))) (
                      some (.next (s78 + (1 : Int)))))))
            else
              some (.done (.next ())))) N (0 : Int))
        fun (_s50 : Unit) =>
          (andThen
            (loopM (fun (s143 : Int) =>
              (if s143 < (List.length p2 : Int) then
                ck ((0 : Int) ≤ s143 ∧ s143 < (List.length p2 : Int)) (
                  ck ((0 : Int) ≤ s143 ∧ s143 ≤ (List.length p2 : Int)) (
                    Option.bind (m_slices_ContainsFunc_household_Check_1 N (List.take (Int.toNat s143) p2) (ix p2 s143)) fun r149 => (if r149 = true then
                      some (.done (.done ((12 : Int))))
                    else
                      ck (I64 (s143 + (1 : Int))) (
                        some (.next (s143 + (1 : Int)))))))
              else
                some (.done (.next ())))) N (0 : Int))
          fun (_s121 : Unit) =>
            some ((0 : Int)))))))
set_option maxHeartbeats 2000000 in
set_option maxRecDepth 20000 in
theorem m_household_Check_ok (N : Nat) (w0 : World) (p0 : (List ApiHousehold)) (p1 : Int) (p2 : (List ApiAssign)) (A_p0 : Option Addr) (n_p0 c_p0 : Nat) (A_p2 : Option Addr) (n_p2 c_p2 : Nat) (hr_p0 : RdE w0 2 encApiHousehold A_p0 p0) (hz_p0 : SW A_p0 n_p0 c_p0 (List.length p0)) (hr_p2 : RdE w0 4 encApiAssign A_p2 p2) (hz_p2 : SW A_p2 n_p2 c_p2 (List.length p2)) (r : Int) (hr : m_household_Check N p0 p1 p2 = some r) :
    Calls Try.prog 44 [.slice A_p0 n_p0 c_p0, .int .i64 p1, .slice A_p2 n_p2 c_p2].toArray w0 fun x w1 => ∃ u, x = .returned ((fun (r : Int) (_u : Unit) => .int .i64 r) r u) ∧ Hs w0 ((fun (_r : Int) (_u : Unit) => []) r u) w1 := by
  refine calls_cm (n := 73) (R := fun r x w1 => ∃ u, x = .returned ((fun (r : Int) (_u : Unit) => .int .i64 r) r u) ∧ Hs w0 ((fun (_r : Int) (_u : Unit) => []) r u) w1) Try.func44 rfl rfl (Nat.le_of_ble_eq_true rfl) ?_ r hr
  unfold m_household_Check
  refine cm_seq ?_
  refine cm_region ?_
  refine lm_val 6 (by kernel_rfl) (fun w1 c1 => (op_assign (v := .int .i64 _) rfl)) ?_
  refine lm_nil ?_
  refine xm_next ?_
  refine cm_seq ?_
  refine cm_seq ?_
  refine cm_cutE [(18, .bool ((decide (p1 < 0)) || (decide (256 < p1))))] ?_ ?_
  · skip
    refine wq_val 13 (by kernel_rfl) (fun w1 c1 => (op_move (v := .int .i64 _) rfl)) ?_
    refine wq_dec 14 (by kernel_rfl) (fun w1 c1 => (op_lss rfl rfl)) (fun h5 => ?_) (fun h5 => ?_)
    · skip
      refine wq_val 15 (by kernel_rfl) (fun w1 c1 => (op_move (v := .bool true) rfl)) ?_
      refine wq_skip 16 (by kernel_rfl) ?_
      refine wq_skip 17 (by kernel_rfl) ?_
      refine wq_val 18 (by kernel_rfl) (fun w1 c1 => (op_pick_t (v := .bool true) rfl rfl)) ?_
      exact leaf_q (sub_out 6 _ rfl (by kernel_rfl) ⟨(congrArg Value.bool (by rw [decide_eq_true h5] <;> rfl)), trivial⟩)
    · skip
      refine wq_val 15 (by kernel_rfl) (fun w1 c1 => (op_move (v := .bool false) rfl)) ?_
      refine wq_val 16 (by kernel_rfl) (fun w1 c1 => (op_move (v := .int .i64 _) rfl)) ?_
      refine wq_val 17 (by kernel_rfl) (fun w1 c1 => (op_gtr rfl rfl)) ?_
      refine wq_val 18 (by kernel_rfl) (fun w1 c1 => (op_pick_f (v := .bool _) rfl rfl)) ?_
      exact leaf_q (sub_out 6 _ rfl (by kernel_rfl) ⟨(congrArg Value.bool (by rw [decide_eq_false h5] <;> rfl)), trivial⟩)
  refine xm_next ?_
  refine cm_condB (by kernel_rfl) rfl (fun h6 => ?_) (fun h6 => ?_)
  · skip
    refine cm_seq ?_
    refine cm_region ?_
    refine lm_val 6 (by kernel_rfl) (fun w1 c1 => (op_assign (v := .int .i64 _) rfl)) ?_
    refine lm_nil ?_
    refine xm_next ?_
    refine cm_ret ?_
    refine xm_thenR ?_
    exact xm_retT rfl (by kernel_rfl) (show _ = Value.int .i64 _ from rfl) fun w1 c1 => ⟨(), rfl, hsub [] (by kernel_rfl) rfl w1 c1⟩
  · skip
    refine cm_skip ?_
    refine xm_next ?_
    refine cm_seq ?_
    refine cm_seq ?_
    refine cm_region ?_
    refine lm_val 19 (by kernel_rfl) (fun w1 c1 => (op_move (v := .slice _ _ _) rfl)) ?_
    refine lm_call 20 (V := (fun (r : Int) (_u : Unit) => .int .i64 r)) (HR := (fun (_r : Int) (_u : Unit) => [])) (by kernel_rfl) (fun w1 => op_call (by kernel_rfl)) (fun r1 hr1 w1 c1 => m_household_people_ok N w1 p0 A_p0 n_p0 c_p0 (hr_p0.old c1) hz_p0 r1 hr1) ?_
    intro r7 u8
    refine lm_val 7 (by kernel_rfl) (fun w1 c1 => (op_assign (v := .int .i64 _) rfl)) ?_
    refine lm_nil ?_
    refine xm_next ?_
    refine cm_seq ?_
    refine cm_region ?_
    refine lm_val 21 (by kernel_rfl) (fun w1 c1 => (op_move (v := .int .i64 _) rfl)) ?_
    refine lm_val 22 (by kernel_rfl) (fun w1 c1 => (op_neq rfl rfl)) ?_
    refine lm_nil ?_
    refine xm_next ?_
    refine cm_cond (by kernel_rfl) rfl (fun h9 => ?_) (fun h9 => ?_)
    · skip
      refine cm_seq ?_
      refine cm_region ?_
      refine lm_val 23 (by kernel_rfl) (fun w1 c1 => (op_move (v := .int .i64 _) rfl)) ?_
      refine lm_val 6 (by kernel_rfl) (fun w1 c1 => (op_assign (v := .int .i64 _) rfl)) ?_
      refine lm_nil ?_
      refine xm_next ?_
      refine cm_ret ?_
      refine xm_thenR ?_
      exact xm_retT rfl (by kernel_rfl) (show _ = Value.int .i64 _ from rfl) fun w1 c1 => ⟨(), rfl, hsub [] (by kernel_rfl) rfl w1 c1⟩
    · skip
      refine cm_skip ?_
      refine xm_next ?_
      refine cm_seq ?_
      refine cm_seq ?_
      refine cm_region ?_
      refine lm_val 24 (by kernel_rfl) (fun w1 c1 => (op_move (v := .slice _ _ _) rfl)) ?_
      refine lm_val 25 (by kernel_rfl) (fun w1 c1 => (op_lenN rfl (by kernel_rfl) hz_p2.2.2)) ?_
      refine lm_val 26 (by kernel_rfl) (fun w1 c1 => (op_gtr rfl rfl)) ?_
      refine lm_nil ?_
      refine xm_next ?_
      refine cm_cond (by kernel_rfl) rfl (fun h10 => ?_) (fun h10 => ?_)
      · skip
        refine cm_seq ?_
        refine cm_region ?_
        refine lm_val 6 (by kernel_rfl) (fun w1 c1 => (op_assign (v := .int .i64 _) rfl)) ?_
        refine lm_nil ?_
        refine xm_next ?_
        refine cm_ret ?_
        refine xm_thenR ?_
        exact xm_retT rfl (by kernel_rfl) (show _ = Value.int .i64 _ from rfl) fun w1 c1 => ⟨(), rfl, hsub [] (by kernel_rfl) rfl w1 c1⟩
      · skip
        refine cm_skip ?_
        refine xm_next ?_
        refine cm_join (σ := Unit) (ξ := Unit) (fun s50 u51 => [(2, .slice A_p2 n_p2 c_p2)]) (fun s50 u51 => []) ?_ ?_
        · skip
          refine cm_seq ?_
          refine cm_region ?_
          refine lm_val 27 (by kernel_rfl) (fun w1 c1 => (op_move (v := .slice _ _ _) rfl)) ?_
          refine lm_val 28 (by kernel_rfl) (fun w1 c1 => (op_lenN rfl (by kernel_rfl) hz_p2.2.2)) ?_
          refine lm_val 29 (by kernel_rfl) (fun w1 c1 => (op_move (v := .int .i64 _) rfl)) ?_
          refine lm_nil ?_
          refine xm_next ?_
          refine cm_block ?_
          refine cm_loop (σ := Int) (ξ := Unit) (fun s78 u79 => [(0, .slice A_p0 n_p0 c_p0), (1, .int .i64 p1), (2, .slice A_p2 n_p2 c_p2), (27, .slice A_p2 n_p2 c_p2), (28, .int .i64 (List.length p2 : Int)), (29, .int .i64 s78)]) (fun s78 u79 => []) () ?_ ?_ ?_
          · exact (sub_cons (by kernel_rfl) rfl (sub_cons (by kernel_rfl) rfl (sub_cons (by kernel_rfl) rfl (sub_cons (by kernel_rfl) rfl (sub_cons (by kernel_rfl) rfl (sub_cons (by kernel_rfl) rfl sub_nil))))))
          · exact hsub [] (by kernel_rfl) rfl
          intro s78 u79
          refine cm_seq ?_
          refine cm_region ?_
          refine lm_val 30 (by kernel_rfl) (fun w1 c1 => (op_lss rfl rfl)) ?_
          refine lm_nil ?_
          refine xm_next ?_
          refine cm_seq ?_
          refine cm_cond (by kernel_rfl) rfl (fun h80 => ?_) (fun h80 => ?_)
          · skip
            refine cm_skip ?_
            refine xm_next ?_
            refine cm_seq ?_
            refine cm_block ?_
            refine cm_seq ?_
            refine cm_region ?_
            refine lm_ck (fun h81 => ?_)
            refine lm_val 31 (by kernel_rfl) (fun w1 c1 => (op_indexA 4 rfl rfl (by kernel_rfl) ((hr_p2.old c1).addr h81.1 h81.2) hz_p2.2.2 h81.1 h81.2)) ?_
            refine lm_val 32 (by kernel_rfl) (fun w1 c1 => (op_loadR [.int .i64 ((ix p2 s78).Container), .int .i64 ((ix p2 s78).Household), .int .i64 ((ix p2 s78).When.From), .int .i64 ((ix p2 s78).When.To)] rfl (by kernel_rfl) ((hr_p2.old c1).row h81.1 h81.2))) ?_
            refine lm_alloc 9 [.int .i64 0, .int .i64 0, .int .i64 0, .int .i64 0] (v := .agg #[.int .i64 0, .int .i64 0, .int .i64 0, .int .i64 0]) (by kernel_rfl) (by kernel_rfl) rfl ?_
            intro b82
            refine lm_storeA 0 [.int .i64 _, .int .i64 _, .int .i64 _, .int .i64 _] [_, _, _, _] (H' := [blkE _ _ [_, _, _, _]]) (by kernel_rfl) rfl rfl (by kernel_rfl) rfl rfl (by kernel_rfl) rfl rfl ?_
            refine lm_nil ?_
            refine xm_next ?_
            refine cm_seq ?_
            refine cm_seq ?_
            refine cm_cutE [(53, .bool ((((decide ((ix p2 s78).Container < 0)) || (decide (p1 ≤ (ix p2 s78).Container))) || (decide ((ix p2 s78).Household < 0))) || (decide ((List.length p0 : Int) ≤ (ix p2 s78).Household))))] ?_ ?_
            · skip
              refine wq_val 33 (by kernel_rfl) (fun w1 c1 => (op_fieldL (m := 0) (k := 0) rfl (by kernel_rfl) rfl)) ?_
              refine wq_val 34 (by kernel_rfl) (fun w1 c1 => (op_load rfl (by kernel_rfl) (c1.cell 0 (u := .int .i64 _) rfl rfl))) ?_
              refine wq_dec 35 (by kernel_rfl) (fun w1 c1 => (op_lss rfl rfl)) (fun h83 => ?_) (fun h83 => ?_)
              · skip
                refine wq_val 36 (by kernel_rfl) (fun w1 c1 => (op_move (v := .bool true) rfl)) ?_
                refine wq_skip 37 (by kernel_rfl) ?_
                refine wq_skip 38 (by kernel_rfl) ?_
                refine wq_skip 39 (by kernel_rfl) ?_
                refine wq_skip 40 (by kernel_rfl) ?_
                refine wq_val 41 (by kernel_rfl) (fun w1 c1 => (op_pick_t (v := .bool true) rfl rfl)) ?_
                refine wq_val 42 (by kernel_rfl) (fun w1 c1 => (op_move (v := .bool true) rfl)) ?_
                refine wq_skip 43 (by kernel_rfl) ?_
                refine wq_skip 44 (by kernel_rfl) ?_
                refine wq_skip 45 (by kernel_rfl) ?_
                refine wq_val 46 (by kernel_rfl) (fun w1 c1 => (op_pick_t (v := .bool true) rfl rfl)) ?_
                refine wq_val 47 (by kernel_rfl) (fun w1 c1 => (op_move (v := .bool true) rfl)) ?_
                refine wq_skip 48 (by kernel_rfl) ?_
                refine wq_skip 49 (by kernel_rfl) ?_
                refine wq_skip 50 (by kernel_rfl) ?_
                refine wq_skip 51 (by kernel_rfl) ?_
                refine wq_skip 52 (by kernel_rfl) ?_
                refine wq_val 53 (by kernel_rfl) (fun w1 c1 => (op_pick_t (v := .bool true) rfl rfl)) ?_
                exact leaf_q (sub_out 21 _ rfl (by kernel_rfl) ⟨(congrArg Value.bool (by rw [decide_eq_true h83] <;> rfl)), trivial⟩)
              · skip
                refine wq_val 36 (by kernel_rfl) (fun w1 c1 => (op_move (v := .bool false) rfl)) ?_
                refine wq_val 37 (by kernel_rfl) (fun w1 c1 => (op_fieldL (m := 0) (k := 0) rfl (by kernel_rfl) rfl)) ?_
                refine wq_val 38 (by kernel_rfl) (fun w1 c1 => (op_load rfl (by kernel_rfl) (c1.cell 0 (u := .int .i64 _) rfl rfl))) ?_
                refine wq_val 39 (by kernel_rfl) (fun w1 c1 => (op_move (v := .int .i64 _) rfl)) ?_
                refine wq_dec 40 (by kernel_rfl) (fun w1 c1 => (op_geq rfl rfl)) (fun h84 => ?_) (fun h84 => ?_)
                · skip
                  refine wq_val 41 (by kernel_rfl) (fun w1 c1 => (op_pick_f (v := .bool true) rfl rfl)) ?_
                  refine wq_val 42 (by kernel_rfl) (fun w1 c1 => (op_move (v := .bool true) rfl)) ?_
                  refine wq_skip 43 (by kernel_rfl) ?_
                  refine wq_skip 44 (by kernel_rfl) ?_
                  refine wq_skip 45 (by kernel_rfl) ?_
                  refine wq_val 46 (by kernel_rfl) (fun w1 c1 => (op_pick_t (v := .bool true) rfl rfl)) ?_
                  refine wq_val 47 (by kernel_rfl) (fun w1 c1 => (op_move (v := .bool true) rfl)) ?_
                  refine wq_skip 48 (by kernel_rfl) ?_
                  refine wq_skip 49 (by kernel_rfl) ?_
                  refine wq_skip 50 (by kernel_rfl) ?_
                  refine wq_skip 51 (by kernel_rfl) ?_
                  refine wq_skip 52 (by kernel_rfl) ?_
                  refine wq_val 53 (by kernel_rfl) (fun w1 c1 => (op_pick_t (v := .bool true) rfl rfl)) ?_
                  exact leaf_q (sub_out 21 _ rfl (by kernel_rfl) ⟨(congrArg Value.bool (by rw [decide_eq_false h83, decide_eq_true h84] <;> rfl)), trivial⟩)
                · skip
                  refine wq_val 41 (by kernel_rfl) (fun w1 c1 => (op_pick_f (v := .bool false) rfl rfl)) ?_
                  refine wq_val 42 (by kernel_rfl) (fun w1 c1 => (op_move (v := .bool false) rfl)) ?_
                  refine wq_val 43 (by kernel_rfl) (fun w1 c1 => (op_fieldL (m := 1) (k := 1) rfl (by kernel_rfl) rfl)) ?_
                  refine wq_val 44 (by kernel_rfl) (fun w1 c1 => (op_load rfl (by kernel_rfl) (c1.cell 0 (u := .int .i64 _) rfl rfl))) ?_
                  refine wq_dec 45 (by kernel_rfl) (fun w1 c1 => (op_lss rfl rfl)) (fun h85 => ?_) (fun h85 => ?_)
                  · skip
                    refine wq_val 46 (by kernel_rfl) (fun w1 c1 => (op_pick_f (v := .bool true) rfl rfl)) ?_
                    refine wq_val 47 (by kernel_rfl) (fun w1 c1 => (op_move (v := .bool true) rfl)) ?_
                    refine wq_skip 48 (by kernel_rfl) ?_
                    refine wq_skip 49 (by kernel_rfl) ?_
                    refine wq_skip 50 (by kernel_rfl) ?_
                    refine wq_skip 51 (by kernel_rfl) ?_
                    refine wq_skip 52 (by kernel_rfl) ?_
                    refine wq_val 53 (by kernel_rfl) (fun w1 c1 => (op_pick_t (v := .bool true) rfl rfl)) ?_
                    exact leaf_q (sub_out 21 _ rfl (by kernel_rfl) ⟨(congrArg Value.bool (by rw [decide_eq_false h83, decide_eq_false h84, decide_eq_true h85] <;> rfl)), trivial⟩)
                  · skip
                    refine wq_val 46 (by kernel_rfl) (fun w1 c1 => (op_pick_f (v := .bool false) rfl rfl)) ?_
                    refine wq_val 47 (by kernel_rfl) (fun w1 c1 => (op_move (v := .bool false) rfl)) ?_
                    refine wq_val 48 (by kernel_rfl) (fun w1 c1 => (op_fieldL (m := 1) (k := 1) rfl (by kernel_rfl) rfl)) ?_
                    refine wq_val 49 (by kernel_rfl) (fun w1 c1 => (op_load rfl (by kernel_rfl) (c1.cell 0 (u := .int .i64 _) rfl rfl))) ?_
                    refine wq_val 50 (by kernel_rfl) (fun w1 c1 => (op_move (v := .slice _ _ _) rfl)) ?_
                    refine wq_val 51 (by kernel_rfl) (fun w1 c1 => (op_lenN rfl (by kernel_rfl) hz_p0.2.2)) ?_
                    refine wq_val 52 (by kernel_rfl) (fun w1 c1 => (op_geq rfl rfl)) ?_
                    refine wq_val 53 (by kernel_rfl) (fun w1 c1 => (op_pick_f (v := .bool _) rfl rfl)) ?_
                    exact leaf_q (sub_out 21 _ rfl (by kernel_rfl) ⟨(congrArg Value.bool (by rw [decide_eq_false h83, decide_eq_false h84, decide_eq_false h85] <;> rfl)), trivial⟩)
            refine xm_next ?_
            refine cm_condB (by kernel_rfl) rfl (fun h86 => ?_) (fun h86 => ?_)
            · skip
              refine cm_seq ?_
              refine cm_region ?_
              refine lm_val 6 (by kernel_rfl) (fun w1 c1 => (op_assign (v := .int .i64 _) rfl)) ?_
              refine lm_nil ?_
              refine xm_next ?_
              refine cm_ret ?_
              refine xm_thenR ?_
              refine xm_inR ?_
              refine xm_thenR ?_
              refine xm_lret ?_
              refine xm_inR ?_
              refine xm_lret ?_
              exact xm_retT rfl (by kernel_rfl) (show _ = Value.int .i64 _ from rfl) fun w1 c1 => ⟨(), rfl, hsub [] (by kernel_rfl) rfl w1 c1⟩
            · skip
              refine cm_skip ?_
              refine xm_next ?_
              refine cm_seq ?_
              refine cm_region ?_
              refine lm_val 54 (by kernel_rfl) (fun w1 c1 => (op_fieldL (m := 2) (k := 2) rfl (by kernel_rfl) rfl)) ?_
              refine lm_val 55 (by kernel_rfl) (fun w1 c1 => (op_loadR [.int .i64 _, .int .i64 _] rfl (by kernel_rfl) (c1.cells 0 rfl rfl))) ?_
              refine lm_call 56 (V := (fun (r : Bool) (_u : Unit) => .bool r)) (HR := (fun (_r : Bool) (_u : Unit) => [])) (by kernel_rfl) (fun w1 => op_call (by kernel_rfl)) (fun r1 hr1 w1 c1 => m_household_valid_ok N w1 ((ix p2 s78).When)  r1 hr1) ?_
              intro r87 u88
              refine lm_val 57 (by kernel_rfl) (fun w1 c1 => (op_not rfl)) ?_
              refine lm_nil ?_
              refine xm_next ?_
              refine cm_condB (by kernel_rfl) rfl (fun h89 => ?_) (fun h89 => ?_)
              · skip
                refine cm_seq ?_
                refine cm_region ?_
                refine lm_val 6 (by kernel_rfl) (fun w1 c1 => (op_assign (v := .int .i64 _) rfl)) ?_
                refine lm_nil ?_
                refine xm_next ?_
                refine cm_ret ?_
                refine xm_inR ?_
                refine xm_thenR ?_
                refine xm_lret ?_
                refine xm_inR ?_
                refine xm_lret ?_
                exact xm_retT rfl (by kernel_rfl) (show _ = Value.int .i64 _ from rfl) fun w1 c1 => ⟨(), rfl, hsub [] (by kernel_rfl) rfl w1 c1⟩
              · skip
                refine cm_skip ?_
                refine xm_inN ?_
                refine xm_next ?_
                refine cm_region ?_
                refine lm_ck (fun h90 => ?_)
                refine lm_val 58 (by kernel_rfl) (fun w1 c1 => (op_add rfl rfl h90)) ?_
                refine lm_val 29 (by kernel_rfl) (fun w1 c1 => (op_move (v := .int .i64 _) rfl)) ?_
                refine lm_nil ?_
                exact xm_lnext () (sub_cons (by kernel_rfl) rfl (sub_cons (by kernel_rfl) rfl (sub_cons (by kernel_rfl) rfl (sub_cons (by kernel_rfl) rfl (sub_cons (by kernel_rfl) rfl (sub_cons (by kernel_rfl) rfl sub_nil)))))) (hsub [] (by kernel_rfl) rfl)
          · skip
            refine cm_exit ?_
            refine xm_thenE ?_
            refine xm_lexit ?_
            refine xm_here ?_
            exact xm_lnext () (sub_cons (by kernel_rfl) rfl sub_nil) (hsub [] (by kernel_rfl) rfl)
        intro s50 u51
        refine cm_join (σ := Unit) (ξ := Unit) (fun s121 u122 => []) (fun s121 u122 => []) ?_ ?_
        · skip
          refine cm_seq ?_
          refine cm_region ?_
          refine lm_val 59 (by kernel_rfl) (fun w1 c1 => (op_move (v := .slice _ _ _) rfl)) ?_
          refine lm_val 60 (by kernel_rfl) (fun w1 c1 => (op_lenN rfl (by kernel_rfl) hz_p2.2.2)) ?_
          refine lm_val 61 (by kernel_rfl) (fun w1 c1 => (op_move (v := .int .i64 _) rfl)) ?_
          refine lm_nil ?_
          refine xm_next ?_
          refine cm_block ?_
          refine cm_loop (σ := Int) (ξ := Unit) (fun s143 u144 => [(2, .slice A_p2 n_p2 c_p2), (59, .slice A_p2 n_p2 c_p2), (60, .int .i64 (List.length p2 : Int)), (61, .int .i64 s143)]) (fun s143 u144 => []) () ?_ ?_ ?_
          · exact (sub_cons (by kernel_rfl) rfl (sub_cons (by kernel_rfl) rfl (sub_cons (by kernel_rfl) rfl (sub_cons (by kernel_rfl) rfl sub_nil))))
          · exact hsub [] (by kernel_rfl) rfl
          intro s143 u144
          refine cm_seq ?_
          refine cm_region ?_
          refine lm_val 62 (by kernel_rfl) (fun w1 c1 => (op_lss rfl rfl)) ?_
          refine lm_nil ?_
          refine xm_next ?_
          refine cm_seq ?_
          refine cm_cond (by kernel_rfl) rfl (fun h145 => ?_) (fun h145 => ?_)
          · skip
            refine cm_skip ?_
            refine xm_next ?_
            refine cm_seq ?_
            refine cm_block ?_
            refine cm_seq ?_
            refine cm_region ?_
            refine lm_val 63 (by kernel_rfl) (fun w1 c1 => (op_move (v := .int .i64 _) rfl)) ?_
            refine lm_ck (fun h146 => ?_)
            refine lm_val 64 (by kernel_rfl) (fun w1 c1 => (op_indexA 4 rfl rfl (by kernel_rfl) ((hr_p2.old c1).addr h146.1 h146.2) hz_p2.2.2 h146.1 h146.2)) ?_
            refine lm_val 65 (by kernel_rfl) (fun w1 c1 => (op_loadR [.int .i64 ((ix p2 s143).Container), .int .i64 ((ix p2 s143).Household), .int .i64 ((ix p2 s143).When.From), .int .i64 ((ix p2 s143).When.To)] rfl (by kernel_rfl) ((hr_p2.old c1).row h146.1 h146.2))) ?_
            refine lm_alloc 11 [.int .i64 0, .int .i64 0, .int .i64 0, .int .i64 0] (v := .agg #[.int .i64 0, .int .i64 0, .int .i64 0, .int .i64 0]) (by kernel_rfl) (by kernel_rfl) rfl ?_
            intro b147
            refine lm_val 10 (by kernel_rfl) (fun w1 c1 => (op_assign (v := .int .i64 _) rfl)) ?_
            refine lm_storeA 0 [.int .i64 _, .int .i64 _, .int .i64 _, .int .i64 _] [_, _, _, _] (H' := [blkE _ _ [_, _, _, _]]) (by kernel_rfl) rfl rfl (by kernel_rfl) rfl rfl (by kernel_rfl) rfl rfl ?_
            refine lm_nil ?_
            refine xm_next ?_
            refine cm_seq ?_
            refine cm_region ?_
            refine lm_val 66 (by kernel_rfl) (fun w1 c1 => (op_makeFuncC [.pointer (some ⟨_, _, _⟩)] rfl)) ?_
            refine lm_val 12 (by kernel_rfl) (fun w1 c1 => (op_assign (v := .func _ _ _) rfl)) ?_
            refine lm_nil ?_
            refine xm_next ?_
            refine cm_seq ?_
            refine cm_region ?_
            refine lm_val 67 (by kernel_rfl) (fun w1 c1 => (op_move (v := .slice _ _ _) rfl)) ?_
            refine lm_val 68 (by kernel_rfl) (fun w1 c1 => (op_move (v := .int .i64 _) rfl)) ?_
            refine lm_ck (fun h148 => ?_)
            refine lm_val 69 (by kernel_rfl) (fun w1 c1 => (op_sliceTo2 (l := p2) rfl rfl (by kernel_rfl) (by kernel_rfl) hz_p2 h148.1 h148.2)) ?_
            refine lm_val 70 (by kernel_rfl) (fun w1 c1 => (op_move (v := .func _ _ _) rfl)) ?_
            refine lm_call 71 (V := (fun (r : Bool) (_u : Unit) => .bool r)) (HR := (fun (_r : Bool) (_u : Unit) => [])) (by kernel_rfl) (fun w1 => op_call (by kernel_rfl)) (fun r1 hr1 w1 c1 => m_slices_ContainsFunc_household_Check_1_ok N w1 (List.take (Int.toNat s143) p2) (ix p2 s143) A_p2 (Int.toNat s143) c_p2 b147 ((hr_p2.old c1).take h148.1 h148.2) (hz_p2.take h148.1 h148.2) (c1.blk 0 rfl) r1 hr1) ?_
            intro r149 u150
            refine lm_nil ?_
            refine xm_next ?_
            refine cm_condB (by kernel_rfl) rfl (fun h151 => ?_) (fun h151 => ?_)
            · skip
              refine cm_seq ?_
              refine cm_region ?_
              refine lm_val 6 (by kernel_rfl) (fun w1 c1 => (op_assign (v := .int .i64 _) rfl)) ?_
              refine lm_nil ?_
              refine xm_next ?_
              refine cm_ret ?_
              refine xm_inR ?_
              refine xm_thenR ?_
              refine xm_lret ?_
              refine xm_inR ?_
              refine xm_lret ?_
              exact xm_retT rfl (by kernel_rfl) (show _ = Value.int .i64 _ from rfl) fun w1 c1 => ⟨(), rfl, hsub [] (by kernel_rfl) rfl w1 c1⟩
            · skip
              refine cm_skip ?_
              refine xm_inN ?_
              refine xm_next ?_
              refine cm_region ?_
              refine lm_ck (fun h152 => ?_)
              refine lm_val 72 (by kernel_rfl) (fun w1 c1 => (op_add rfl rfl h152)) ?_
              refine lm_val 61 (by kernel_rfl) (fun w1 c1 => (op_move (v := .int .i64 _) rfl)) ?_
              refine lm_nil ?_
              exact xm_lnext () (sub_cons (by kernel_rfl) rfl (sub_cons (by kernel_rfl) rfl (sub_cons (by kernel_rfl) rfl (sub_cons (by kernel_rfl) rfl sub_nil)))) (hsub [] (by kernel_rfl) rfl)
          · skip
            refine cm_exit ?_
            refine xm_thenE ?_
            refine xm_lexit ?_
            refine xm_here ?_
            exact xm_lnext () sub_nil (hsub [] (by kernel_rfl) rfl)
        intro s121 u122
        refine cm_seq ?_
        refine cm_region ?_
        refine lm_val 6 (by kernel_rfl) (fun w1 c1 => (op_assign (v := .int .i64 _) rfl)) ?_
        refine lm_nil ?_
        refine xm_next ?_
        refine cm_ret ?_
        exact xm_retT rfl (by kernel_rfl) (show _ = Value.int .i64 _ from rfl) fun w1 c1 => ⟨(), rfl, hsub [] (by kernel_rfl) rfl w1 c1⟩
end Go.Proofs.Ytljogldcejcikaa
