/- Models of functions, and that the code follows them. Written by deco.py. -/
import Derived.Test.YtljogldcejcikaaCmpAwake
namespace Go.Proofs.Ytljogldcejcikaa
open Go.RowKit

/-- recyclinglaw57.ComplaintJust -/
def m_recyclinglaw57_ComplaintJust (N : Nat) (p0 : Recyclinglaw57Case) : Option (Bool) :=
  Option.bind (m_recyclinglaw57_few N p0.Account p0.Bill) fun r6 => (if ((((!r6) || (decide (p0.Complaint.Kind = 3))) || (decide (p0.Complaint.Item < 0))) || (decide ((List.length p0.Bill.Items : Int) ≤ p0.Complaint.Item))) = true then
    Option.bind (m_recyclinglaw57_awake N) fun r12 => some (r12)
  else
    Option.bind (m_complaint_Decide N p0.Account p0.Bill p0.Complaint p0.Days) fun r14 => Option.bind (m_emptying_Counts N p0.Account.Emptyings p0.Account.Gap) fun r17 => (if ((decide (r14.2 ≠ 0)) || (decide (r17.2 ≠ 0))) = true then
      Option.bind (m_recyclinglaw57_awake N) fun r21 => some (r21)
    else
      (andThen
        (loopM (fun (s90 : Int) =>
          (if s90 < (List.length r17.1 : Int) then
            ck ((0 : Int) ≤ s90 ∧ s90 < (List.length r17.1 : Int)) (
              ck ((!(decide ((ix r17.1 s90) < 0))) = true → (0 : Int) ≤ s90 ∧ s90 < (List.length r17.1 : Int)) (
                (if ((decide ((ix r17.1 s90) < 0)) || (decide ((List.length p0.Account.Emptyings : Int) ≤ (ix r17.1 s90)))) = true then
                  some (.done (.done (false)))
                else
                  ck ((0 : Int) ≤ s90 ∧ s90 < (List.length r17.1 : Int)) (
                    ck ((0 : Int) ≤ (ix r17.1 s90) ∧ (ix r17.1 s90) < (List.length p0.Account.Emptyings : Int)) (
                      ck ((0 : Int) ≤ p0.Complaint.Item ∧ p0.Complaint.Item < (List.length p0.Bill.Items : Int)) (
                        (if ((decide ((ix p0.Account.Emptyings (ix r17.1 s90)).ID = (ix p0.Bill.Items p0.Complaint.Item).Ref)) && (decide (r14.1.Err = 0))) = true then
                          some (.done (.done (false)))
                        else
                          ck (I64 (s90 + (1 : Int))) (
                            some (.next (s90 + (1 : Int)))))))))))
          else
            some (.done (.next ())))) N (0 : Int))
      fun (_s62 : Unit) =>
        Option.bind (m_recyclinglaw57_awake N) fun r103 => some (r103))))
set_option maxHeartbeats 2000000 in
set_option maxRecDepth 20000 in
theorem m_recyclinglaw57_ComplaintJust_ok (N : Nat) (w0 : World) (p0 : Recyclinglaw57Case) (A_p01 : Option Addr) (n_p01 c_p01 : Nat) (A_p02 : Option Addr) (n_p02 c_p02 : Nat) (A_p03 : Option Addr) (n_p03 c_p03 : Nat) (A_p04 : Option Addr) (n_p04 c_p04 : Nat) (A_p05 : Option Addr) (n_p05 c_p05 : Nat) (A_p06 : Option Addr) (n_p06 c_p06 : Nat) (hr_p01 : RdE w0 2 encApiHousehold A_p01 p0.Account.Households) (hz_p01 : SW A_p01 n_p01 c_p01 (List.length p0.Account.Households)) (hr_p02 : RdE w0 5 encApiContainer A_p02 p0.Account.Containers) (hz_p02 : SW A_p02 n_p02 c_p02 (List.length p0.Account.Containers)) (hr_p03 : RdE w0 4 encApiAssign A_p03 p0.Account.Assigns) (hz_p03 : SW A_p03 n_p03 c_p03 (List.length p0.Account.Assigns)) (hr_p04 : RdE w0 7 encApiEmptying A_p04 p0.Account.Emptyings) (hz_p04 : SW A_p04 n_p04 c_p04 (List.length p0.Account.Emptyings)) (hr_p05 : RdE w0 5 encApiTariff A_p05 p0.Account.Tariffs) (hz_p05 : SW A_p05 n_p05 c_p05 (List.length p0.Account.Tariffs)) (hr_p06 : RdE w0 5 encApiItem A_p06 p0.Bill.Items) (hz_p06 : SW A_p06 n_p06 c_p06 (List.length p0.Bill.Items)) (r : Bool) (hr : m_recyclinglaw57_ComplaintJust N p0 = some r) :
    Calls Try.prog 7 [.agg #[.slice A_p01 n_p01 c_p01, .slice A_p02 n_p02 c_p02, .slice A_p03 n_p03 c_p03, .slice A_p04 n_p04 c_p04, .slice A_p05 n_p05 c_p05, .int .i64 p0.Account.Gap, .int .i64 p0.Bill.ID, .int .i64 p0.Bill.Household, .int .i64 p0.Bill.When.From, .int .i64 p0.Bill.When.To, .slice A_p06 n_p06 c_p06, .int .i64 p0.Bill.Total, .int .i64 p0.Complaint.Bill, .int .i64 p0.Complaint.Item, .int .i64 p0.Complaint.At, .int .i64 p0.Complaint.Kind, .int .i64 p0.Days]].toArray w0 fun x w1 => ∃ u, x = .returned ((fun (r : Bool) (_u : Unit) => .bool r) r u) ∧ Hs w0 ((fun (_r : Bool) (_u : Unit) => []) r u) w1 := by
  refine calls_cm (n := 114) (R := fun r x w1 => ∃ u, x = .returned ((fun (r : Bool) (_u : Unit) => .bool r) r u) ∧ Hs w0 ((fun (_r : Bool) (_u : Unit) => []) r u) w1) Try.func7 rfl rfl (Nat.le_of_ble_eq_true rfl) ?_ r hr
  unfold m_recyclinglaw57_ComplaintJust
  refine cm_seq ?_
  refine cm_region ?_
  refine lm_box 1 [.slice _ _ _, .slice _ _ _, .slice _ _ _, .slice _ _ _, .slice _ _ _, .int .i64 _, .int .i64 _, .int .i64 _, .int .i64 _, .int .i64 _, .slice _ _ _, .int .i64 _, .int .i64 _, .int .i64 _, .int .i64 _, .int .i64 _, .int .i64 _] (by kernel_rfl) rfl ?_
  intro b5
  refine lm_val 2 (by kernel_rfl) (fun w1 c1 => (op_assign (v := .bool false) rfl)) ?_
  refine lm_nil ?_
  refine xm_next ?_
  refine cm_seq ?_
  refine cm_seq ?_
  refine cm_bind fun r6 h7 => ?_
  refine cm_cutE [(35, .bool ((((!r6) || (decide (p0.Complaint.Kind = 3))) || (decide (p0.Complaint.Item < 0))) || (decide ((List.length p0.Bill.Items : Int) ≤ p0.Complaint.Item))))] ?_ ?_
  · skip
    refine wq_val 8 (by kernel_rfl) (fun w1 c1 => (op_fieldL (m := 0) (k := 0) rfl (by kernel_rfl) rfl)) ?_
    refine wq_val 9 (by kernel_rfl) (fun w1 c1 => (op_loadR [.slice _ _ _, .slice _ _ _, .slice _ _ _, .slice _ _ _, .slice _ _ _, .int .i64 _] rfl (by kernel_rfl) (c1.cells 0 rfl rfl))) ?_
    refine wq_val 10 (by kernel_rfl) (fun w1 c1 => (op_fieldL (m := 6) (k := 6) rfl (by kernel_rfl) rfl)) ?_
    refine wq_val 11 (by kernel_rfl) (fun w1 c1 => (op_loadR [.int .i64 _, .int .i64 _, .int .i64 _, .int .i64 _, .slice _ _ _, .int .i64 _] rfl (by kernel_rfl) (c1.cells 0 rfl rfl))) ?_
    refine wq_callb 12 (by kernel_rfl) (fun w1 c1 => op_call (by kernel_rfl)) (fun w1 c1 => (m_recyclinglaw57_few_ok N w1 p0.Account p0.Bill A_p01 n_p01 c_p01 A_p02 n_p02 c_p02 A_p03 n_p03 c_p03 A_p04 n_p04 c_p04 A_p05 n_p05 c_p05 A_p06 n_p06 c_p06 (hr_p01.old c1) hz_p01 (hr_p02.old c1) hz_p02 (hr_p03.old c1) hz_p03 (hr_p04.old c1) hz_p04 (hr_p05.old c1) hz_p05 (hr_p06.old c1) hz_p06 r6 h7).mono (fun _ _ ⟨_, hx, hu⟩ => ⟨hx, c1.call hu⟩)) (fun h8 => ?_) (fun h8 => ?_)
    · skip
      refine wq_val 13 (by kernel_rfl) (fun w1 c1 => (op_nott rfl)) ?_
      refine wq_val 14 (by kernel_rfl) (fun w1 c1 => (op_move (v := .bool false) rfl)) ?_
      refine wq_val 15 (by kernel_rfl) (fun w1 c1 => (op_fieldL (m := 12) (k := 12) rfl (by kernel_rfl) rfl)) ?_
      refine wq_val 16 (by kernel_rfl) (fun w1 c1 => (op_fieldL (m := 3) (k := 15) rfl (by kernel_rfl) rfl)) ?_
      refine wq_val 17 (by kernel_rfl) (fun w1 c1 => (op_load rfl (by kernel_rfl) (c1.cell 0 (u := .int .i64 _) rfl rfl))) ?_
      refine wq_dec 18 (by kernel_rfl) (fun w1 c1 => (op_eql rfl rfl)) (fun h9 => ?_) (fun h9 => ?_)
      · skip
        refine wq_val 19 (by kernel_rfl) (fun w1 c1 => (op_pick_f (v := .bool true) rfl rfl)) ?_
        refine wq_val 20 (by kernel_rfl) (fun w1 c1 => (op_move (v := .bool true) rfl)) ?_
        refine wq_skip 21 (by kernel_rfl) ?_
        refine wq_skip 22 (by kernel_rfl) ?_
        refine wq_skip 23 (by kernel_rfl) ?_
        refine wq_skip 24 (by kernel_rfl) ?_
        refine wq_val 25 (by kernel_rfl) (fun w1 c1 => (op_pick_t (v := .bool true) rfl rfl)) ?_
        refine wq_val 26 (by kernel_rfl) (fun w1 c1 => (op_move (v := .bool true) rfl)) ?_
        refine wq_skip 27 (by kernel_rfl) ?_
        refine wq_skip 28 (by kernel_rfl) ?_
        refine wq_skip 29 (by kernel_rfl) ?_
        refine wq_skip 30 (by kernel_rfl) ?_
        refine wq_skip 31 (by kernel_rfl) ?_
        refine wq_skip 32 (by kernel_rfl) ?_
        refine wq_skip 33 (by kernel_rfl) ?_
        refine wq_skip 34 (by kernel_rfl) ?_
        refine wq_val 35 (by kernel_rfl) (fun w1 c1 => (op_pick_t (v := .bool true) rfl rfl)) ?_
        exact leaf_q (sub_out 28 _ rfl (by kernel_rfl) ⟨(congrArg Value.bool (by rw [h8, decide_eq_true h9] <;> rfl)), trivial⟩)
      · skip
        refine wq_val 19 (by kernel_rfl) (fun w1 c1 => (op_pick_f (v := .bool false) rfl rfl)) ?_
        refine wq_val 20 (by kernel_rfl) (fun w1 c1 => (op_move (v := .bool false) rfl)) ?_
        refine wq_val 21 (by kernel_rfl) (fun w1 c1 => (op_fieldL (m := 12) (k := 12) rfl (by kernel_rfl) rfl)) ?_
        refine wq_val 22 (by kernel_rfl) (fun w1 c1 => (op_fieldL (m := 1) (k := 13) rfl (by kernel_rfl) rfl)) ?_
        refine wq_val 23 (by kernel_rfl) (fun w1 c1 => (op_load rfl (by kernel_rfl) (c1.cell 0 (u := .int .i64 _) rfl rfl))) ?_
        refine wq_dec 24 (by kernel_rfl) (fun w1 c1 => (op_lss rfl rfl)) (fun h10 => ?_) (fun h10 => ?_)
        · skip
          refine wq_val 25 (by kernel_rfl) (fun w1 c1 => (op_pick_f (v := .bool true) rfl rfl)) ?_
          refine wq_val 26 (by kernel_rfl) (fun w1 c1 => (op_move (v := .bool true) rfl)) ?_
          refine wq_skip 27 (by kernel_rfl) ?_
          refine wq_skip 28 (by kernel_rfl) ?_
          refine wq_skip 29 (by kernel_rfl) ?_
          refine wq_skip 30 (by kernel_rfl) ?_
          refine wq_skip 31 (by kernel_rfl) ?_
          refine wq_skip 32 (by kernel_rfl) ?_
          refine wq_skip 33 (by kernel_rfl) ?_
          refine wq_skip 34 (by kernel_rfl) ?_
          refine wq_val 35 (by kernel_rfl) (fun w1 c1 => (op_pick_t (v := .bool true) rfl rfl)) ?_
          exact leaf_q (sub_out 28 _ rfl (by kernel_rfl) ⟨(congrArg Value.bool (by rw [h8, decide_eq_false h9, decide_eq_true h10] <;> rfl)), trivial⟩)
        · skip
          refine wq_val 25 (by kernel_rfl) (fun w1 c1 => (op_pick_f (v := .bool false) rfl rfl)) ?_
          refine wq_val 26 (by kernel_rfl) (fun w1 c1 => (op_move (v := .bool false) rfl)) ?_
          refine wq_val 27 (by kernel_rfl) (fun w1 c1 => (op_fieldL (m := 12) (k := 12) rfl (by kernel_rfl) rfl)) ?_
          refine wq_val 28 (by kernel_rfl) (fun w1 c1 => (op_fieldL (m := 1) (k := 13) rfl (by kernel_rfl) rfl)) ?_
          refine wq_val 29 (by kernel_rfl) (fun w1 c1 => (op_load rfl (by kernel_rfl) (c1.cell 0 (u := .int .i64 _) rfl rfl))) ?_
          refine wq_val 30 (by kernel_rfl) (fun w1 c1 => (op_fieldL (m := 6) (k := 6) rfl (by kernel_rfl) rfl)) ?_
          refine wq_val 31 (by kernel_rfl) (fun w1 c1 => (op_fieldL (m := 4) (k := 10) rfl (by kernel_rfl) rfl)) ?_
          refine wq_val 32 (by kernel_rfl) (fun w1 c1 => (op_load rfl (by kernel_rfl) (c1.cell 0 (u := .slice _ _ _) rfl rfl))) ?_
          refine wq_val 33 (by kernel_rfl) (fun w1 c1 => (op_lenN rfl (by kernel_rfl) hz_p06.2.2)) ?_
          refine wq_val 34 (by kernel_rfl) (fun w1 c1 => (op_geq rfl rfl)) ?_
          refine wq_val 35 (by kernel_rfl) (fun w1 c1 => (op_pick_f (v := .bool _) rfl rfl)) ?_
          exact leaf_q (sub_out 28 _ rfl (by kernel_rfl) ⟨(congrArg Value.bool (by rw [h8, decide_eq_false h9, decide_eq_false h10] <;> rfl)), trivial⟩)
    · skip
      refine wq_val 13 (by kernel_rfl) (fun w1 c1 => (op_notf rfl)) ?_
      refine wq_val 14 (by kernel_rfl) (fun w1 c1 => (op_move (v := .bool true) rfl)) ?_
      refine wq_skip 15 (by kernel_rfl) ?_
      refine wq_skip 16 (by kernel_rfl) ?_
      refine wq_skip 17 (by kernel_rfl) ?_
      refine wq_skip 18 (by kernel_rfl) ?_
      refine wq_val 19 (by kernel_rfl) (fun w1 c1 => (op_pick_t (v := .bool true) rfl rfl)) ?_
      refine wq_val 20 (by kernel_rfl) (fun w1 c1 => (op_move (v := .bool true) rfl)) ?_
      refine wq_skip 21 (by kernel_rfl) ?_
      refine wq_skip 22 (by kernel_rfl) ?_
      refine wq_skip 23 (by kernel_rfl) ?_
      refine wq_skip 24 (by kernel_rfl) ?_
      refine wq_val 25 (by kernel_rfl) (fun w1 c1 => (op_pick_t (v := .bool true) rfl rfl)) ?_
      refine wq_val 26 (by kernel_rfl) (fun w1 c1 => (op_move (v := .bool true) rfl)) ?_
      refine wq_skip 27 (by kernel_rfl) ?_
      refine wq_skip 28 (by kernel_rfl) ?_
      refine wq_skip 29 (by kernel_rfl) ?_
      refine wq_skip 30 (by kernel_rfl) ?_
      refine wq_skip 31 (by kernel_rfl) ?_
      refine wq_skip 32 (by kernel_rfl) ?_
      refine wq_skip 33 (by kernel_rfl) ?_
      refine wq_skip 34 (by kernel_rfl) ?_
      refine wq_val 35 (by kernel_rfl) (fun w1 c1 => (op_pick_t (v := .bool true) rfl rfl)) ?_
      exact leaf_q (sub_out 28 _ rfl (by kernel_rfl) ⟨(congrArg Value.bool (by rw [h8] <;> rfl)), trivial⟩)
  refine xm_next ?_
  refine cm_condB (by kernel_rfl) rfl (fun h11 => ?_) (fun h11 => ?_)
  · skip
    refine cm_seq ?_
    refine cm_region ?_
    refine lm_call 36 (V := (fun (r : Bool) (_u : Unit) => .bool r)) (HR := (fun (_r : Bool) (_u : Unit) => [])) (by kernel_rfl) (fun w1 => op_call (by kernel_rfl)) (fun r1 hr1 w1 c1 => m_recyclinglaw57_awake_ok N w1   r1 hr1) ?_
    intro r12 u13
    refine lm_val 2 (by kernel_rfl) (fun w1 c1 => (op_assign (v := .bool _) rfl)) ?_
    refine lm_nil ?_
    refine xm_next ?_
    refine cm_ret ?_
    refine xm_thenR ?_
    exact xm_retT rfl (by kernel_rfl) (show _ = Value.bool _ from rfl) fun w1 c1 => ⟨(), rfl, hsub [] (by kernel_rfl) rfl w1 c1⟩
  · skip
    refine cm_skip ?_
    refine xm_next ?_
    refine cm_seq ?_
    refine cm_region ?_
    refine lm_val 38 (by kernel_rfl) (fun w1 c1 => (op_fieldL (m := 0) (k := 0) rfl (by kernel_rfl) rfl)) ?_
    refine lm_val 39 (by kernel_rfl) (fun w1 c1 => (op_loadR [.slice _ _ _, .slice _ _ _, .slice _ _ _, .slice _ _ _, .slice _ _ _, .int .i64 _] rfl (by kernel_rfl) (c1.cells 0 rfl rfl))) ?_
    refine lm_val 40 (by kernel_rfl) (fun w1 c1 => (op_fieldL (m := 6) (k := 6) rfl (by kernel_rfl) rfl)) ?_
    refine lm_val 41 (by kernel_rfl) (fun w1 c1 => (op_loadR [.int .i64 _, .int .i64 _, .int .i64 _, .int .i64 _, .slice _ _ _, .int .i64 _] rfl (by kernel_rfl) (c1.cells 0 rfl rfl))) ?_
    refine lm_val 42 (by kernel_rfl) (fun w1 c1 => (op_fieldL (m := 12) (k := 12) rfl (by kernel_rfl) rfl)) ?_
    refine lm_val 43 (by kernel_rfl) (fun w1 c1 => (op_loadR [.int .i64 _, .int .i64 _, .int .i64 _, .int .i64 _] rfl (by kernel_rfl) (c1.cells 0 rfl rfl))) ?_
    refine lm_val 44 (by kernel_rfl) (fun w1 c1 => (op_fieldL (m := 16) (k := 16) rfl (by kernel_rfl) rfl)) ?_
    refine lm_val 45 (by kernel_rfl) (fun w1 c1 => (op_load rfl (by kernel_rfl) (c1.cell 0 (u := .int .i64 _) rfl rfl))) ?_
    refine lm_call 46 (V := (fun (r : ApiRuling × Int) (_u : Unit) => .tuple #[.agg #[.int .i64 r.1.Credit, .int .i64 r.1.Err], .int .i64 r.2])) (HR := (fun (_r : ApiRuling × Int) (_u : Unit) => [])) (by kernel_rfl) (fun w1 => op_call (by kernel_rfl)) (fun r1 hr1 w1 c1 => m_complaint_Decide_ok N w1 p0.Account p0.Bill p0.Complaint p0.Days A_p01 n_p01 c_p01 A_p02 n_p02 c_p02 A_p03 n_p03 c_p03 A_p04 n_p04 c_p04 A_p05 n_p05 c_p05 A_p06 n_p06 c_p06 (hr_p01.old c1) hz_p01 (hr_p02.old c1) hz_p02 (hr_p03.old c1) hz_p03 (hr_p04.old c1) hz_p04 (hr_p05.old c1) hz_p05 (hr_p06.old c1) hz_p06 r1 hr1) ?_
    intro r14 u15
    refine lm_val 37 (by kernel_rfl) (fun w1 c1 => (op_move (v := .tuple _) rfl)) ?_
    refine lm_val 47 (by kernel_rfl) (fun w1 c1 => (op_extract (v := .agg _) rfl rfl)) ?_
    refine lm_val 48 (by kernel_rfl) (fun w1 c1 => (op_extract (v := .int .i64 _) rfl rfl)) ?_
    refine lm_alloc 3 [.int .i64 0, .int .i64 0] (v := .agg #[.int .i64 0, .int .i64 0]) (by kernel_rfl) (by kernel_rfl) rfl ?_
    intro b16
    refine lm_storeA 0 [.int .i64 _, .int .i64 _] [_, _] (H' := [blkE _ _ [_, _], _]) (by kernel_rfl) rfl rfl (by kernel_rfl) rfl rfl (by kernel_rfl) rfl rfl ?_
    refine lm_val 4 (by kernel_rfl) (fun w1 c1 => (op_assign (v := .int .i64 _) rfl)) ?_
    refine lm_nil ?_
    refine xm_next ?_
    refine cm_seq ?_
    refine cm_region ?_
    refine lm_val 50 (by kernel_rfl) (fun w1 c1 => (op_fieldL (m := 0) (k := 0) rfl (by kernel_rfl) rfl)) ?_
    refine lm_val 51 (by kernel_rfl) (fun w1 c1 => (op_fieldL (m := 3) (k := 3) rfl (by kernel_rfl) rfl)) ?_
    refine lm_val 52 (by kernel_rfl) (fun w1 c1 => (op_load rfl (by kernel_rfl) (c1.cell 1 (u := .slice _ _ _) rfl rfl))) ?_
    refine lm_val 53 (by kernel_rfl) (fun w1 c1 => (op_fieldL (m := 0) (k := 0) rfl (by kernel_rfl) rfl)) ?_
    refine lm_val 54 (by kernel_rfl) (fun w1 c1 => (op_fieldL (m := 5) (k := 5) rfl (by kernel_rfl) rfl)) ?_
    refine lm_val 55 (by kernel_rfl) (fun w1 c1 => (op_load rfl (by kernel_rfl) (c1.cell 1 (u := .int .i64 _) rfl rfl))) ?_
    refine lm_call 56 (V := (fun (r : (List Int) × Int) (u : (Option Addr) × Nat × Nat) => .tuple #[.slice u.1 u.2.1 u.2.2, .int .i64 r.2])) (HR := (fun (r : (List Int) × Int) (u : (Option Addr) × Nat × Nat) => [ownE 3 1 encI u.1 u.2.1 u.2.2 r.1])) (by kernel_rfl) (fun w1 => op_call (by kernel_rfl)) (fun r1 hr1 w1 c1 => m_emptying_Counts_ok N w1 p0.Account.Emptyings p0.Account.Gap A_p04 n_p04 c_p04 (hr_p04.old c1) hz_p04 r1 hr1) ?_
    intro r17 u18
    refine lm_val 49 (by kernel_rfl) (fun w1 c1 => (op_move (v := .tuple _) rfl)) ?_
    refine lm_val 57 (by kernel_rfl) (fun w1 c1 => (op_extract (v := .slice _ _ _) rfl rfl)) ?_
    refine lm_val 58 (by kernel_rfl) (fun w1 c1 => (op_extract (v := .int .i64 _) rfl rfl)) ?_
    refine lm_val 5 (by kernel_rfl) (fun w1 c1 => (op_assign (v := .slice _ _ _) rfl)) ?_
    refine lm_val 6 (by kernel_rfl) (fun w1 c1 => (op_assign (v := .int .i64 _) rfl)) ?_
    refine lm_nil ?_
    refine xm_next ?_
    refine cm_seq ?_
    refine cm_seq ?_
    refine cm_cutE [(64, .bool ((decide (r14.2 ≠ 0)) || (decide (r17.2 ≠ 0))))] ?_ ?_
    · skip
      refine wq_val 59 (by kernel_rfl) (fun w1 c1 => (op_move (v := .int .i64 _) rfl)) ?_
      refine wq_dec 60 (by kernel_rfl) (fun w1 c1 => (op_neq rfl rfl)) (fun h19 => ?_) (fun h19 => ?_)
      · skip
        refine wq_val 61 (by kernel_rfl) (fun w1 c1 => (op_move (v := .bool true) rfl)) ?_
        refine wq_skip 62 (by kernel_rfl) ?_
        refine wq_skip 63 (by kernel_rfl) ?_
        refine wq_val 64 (by kernel_rfl) (fun w1 c1 => (op_pick_t (v := .bool true) rfl rfl)) ?_
        exact leaf_q (sub_out 6 _ rfl (by kernel_rfl) ⟨(congrArg Value.bool (by rw [decide_eq_true h19] <;> rfl)), trivial⟩)
      · skip
        refine wq_val 61 (by kernel_rfl) (fun w1 c1 => (op_move (v := .bool false) rfl)) ?_
        refine wq_val 62 (by kernel_rfl) (fun w1 c1 => (op_move (v := .int .i64 _) rfl)) ?_
        refine wq_val 63 (by kernel_rfl) (fun w1 c1 => (op_neq rfl rfl)) ?_
        refine wq_val 64 (by kernel_rfl) (fun w1 c1 => (op_pick_f (v := .bool _) rfl rfl)) ?_
        exact leaf_q (sub_out 6 _ rfl (by kernel_rfl) ⟨(congrArg Value.bool (by rw [decide_eq_false h19] <;> rfl)), trivial⟩)
    refine xm_next ?_
    refine cm_condB (by kernel_rfl) rfl (fun h20 => ?_) (fun h20 => ?_)
    · skip
      refine cm_seq ?_
      refine cm_region ?_
      refine lm_call 65 (V := (fun (r : Bool) (_u : Unit) => .bool r)) (HR := (fun (_r : Bool) (_u : Unit) => [])) (by kernel_rfl) (fun w1 => op_call (by kernel_rfl)) (fun r1 hr1 w1 c1 => m_recyclinglaw57_awake_ok N w1   r1 hr1) ?_
      intro r21 u22
      refine lm_val 2 (by kernel_rfl) (fun w1 c1 => (op_assign (v := .bool _) rfl)) ?_
      refine lm_nil ?_
      refine xm_next ?_
      refine cm_ret ?_
      refine xm_thenR ?_
      exact xm_retT rfl (by kernel_rfl) (show _ = Value.bool _ from rfl) fun w1 c1 => ⟨(), rfl, hsub [] (by kernel_rfl) rfl w1 c1⟩
    · skip
      refine cm_skip ?_
      refine xm_next ?_
      refine cm_join (σ := Unit) (ξ := Unit) (fun s62 u63 => []) (fun s62 u63 => []) ?_ ?_
      · skip
        refine cm_seq ?_
        refine cm_region ?_
        refine lm_val 7 (by kernel_rfl) (fun w1 c1 => (op_assign (v := .int .i64 _) rfl)) ?_
        refine lm_nil ?_
        refine xm_next ?_
        refine cm_block ?_
        refine cm_loop (σ := Int) (ξ := Unit) (fun s90 u91 => [(1, .pointer (some ⟨b5, 0, none⟩)), (3, .pointer (some ⟨b16, 0, none⟩)), (5, .slice u18.1 u18.2.1 u18.2.2), (7, .int .i64 s90)]) (fun s90 u91 => [blkE b5 50 [.slice A_p01 n_p01 c_p01, .slice A_p02 n_p02 c_p02, .slice A_p03 n_p03 c_p03, .slice A_p04 n_p04 c_p04, .slice A_p05 n_p05 c_p05, .int .i64 p0.Account.Gap, .int .i64 p0.Bill.ID, .int .i64 p0.Bill.Household, .int .i64 p0.Bill.When.From, .int .i64 p0.Bill.When.To, .slice A_p06 n_p06 c_p06, .int .i64 p0.Bill.Total, .int .i64 p0.Complaint.Bill, .int .i64 p0.Complaint.Item, .int .i64 p0.Complaint.At, .int .i64 p0.Complaint.Kind, .int .i64 p0.Days], blkE b16 37 [.int .i64 r14.1.Credit, .int .i64 r14.1.Err], ownE 3 1 encI u18.1 u18.2.1 u18.2.2 r17.1]) () ?_ ?_ ?_
        · exact (sub_cons (by kernel_rfl) rfl (sub_cons (by kernel_rfl) rfl (sub_cons (by kernel_rfl) rfl (sub_cons (by kernel_rfl) rfl sub_nil))))
        · exact hsub [2, 1, 0] (by kernel_rfl) rfl
        intro s90 u91
        refine cm_seq ?_
        refine cm_seq ?_
        refine cm_region ?_
        refine lm_val 66 (by kernel_rfl) (fun w1 c1 => (op_move (v := .int .i64 _) rfl)) ?_
        refine lm_val 67 (by kernel_rfl) (fun w1 c1 => (op_move (v := .slice _ _ _) rfl)) ?_
        refine lm_val 68 (by kernel_rfl) (fun w1 c1 => (op_lenN rfl (by kernel_rfl) (c1.ownZ 2 rfl).2.2)) ?_
        refine lm_val 69 (by kernel_rfl) (fun w1 c1 => (op_lss rfl rfl)) ?_
        refine lm_nil ?_
        refine xm_next ?_
        refine cm_cond (by kernel_rfl) rfl (fun h92 => ?_) (fun h92 => ?_)
        · skip
          refine cm_skip ?_
          refine xm_next ?_
          refine cm_seq ?_
          refine cm_block ?_
          refine cm_seq ?_
          refine cm_seq ?_
          refine cm_ck (fun h93 => ?_)
          refine cm_ck (fun h94 => ?_)
          refine cm_drawn [(87, .bool ((decide ((ix r17.1 s90) < 0)) || (decide ((List.length p0.Account.Emptyings : Int) ≤ (ix r17.1 s90)))))] (by kernel_rfl) (by kernel_rfl) ?_ ?_
          · skip
            refine wq_val 72 (by kernel_rfl) (fun w1 c1 => (op_move (v := .slice _ _ _) rfl)) ?_
            refine wq_val 73 (by kernel_rfl) (fun w1 c1 => (op_move (v := .int .i64 _) rfl)) ?_
            refine wq_val 74 (by kernel_rfl) (fun w1 c1 => (op_indexA 1 rfl rfl (by kernel_rfl) ((c1.own 2 rfl encI_len).addr h93.1 h93.2) (c1.ownZ 2 rfl).2.2 h93.1 h93.2)) ?_
            refine wq_val 75 (by kernel_rfl) (fun w1 c1 => (op_load (v := .int .i64 (ix r17.1 s90)) rfl (by kernel_rfl) ((c1.own 2 rfl encI_len).cell0 h93.1 h93.2 rfl))) ?_
            refine wq_dec 76 (by kernel_rfl) (fun w1 c1 => (op_lss rfl rfl)) (fun h95 => ?_) (fun h95 => ?_)
            · skip
              refine wq_val 77 (by kernel_rfl) (fun w1 c1 => (op_move (v := .bool true) rfl)) ?_
              refine wq_skip 78 (by kernel_rfl) ?_
              refine wq_skip 79 (by kernel_rfl) ?_
              refine wq_skip 80 (by kernel_rfl) ?_
              refine wq_skip 81 (by kernel_rfl) ?_
              refine wq_skip 82 (by kernel_rfl) ?_
              refine wq_skip 83 (by kernel_rfl) ?_
              refine wq_skip 84 (by kernel_rfl) ?_
              refine wq_skip 85 (by kernel_rfl) ?_
              refine wq_skip 86 (by kernel_rfl) ?_
              refine wq_val 87 (by kernel_rfl) (fun w1 c1 => (op_pick_t (v := .bool true) rfl rfl)) ?_
              exact leaf_q (sub_out 16 _ rfl (by kernel_rfl) ⟨(congrArg Value.bool (by rw [decide_eq_true h95] <;> rfl)), trivial⟩)
            · skip
              refine wq_val 77 (by kernel_rfl) (fun w1 c1 => (op_move (v := .bool false) rfl)) ?_
              refine wq_val 78 (by kernel_rfl) (fun w1 c1 => (op_move (v := .slice _ _ _) rfl)) ?_
              refine wq_val 79 (by kernel_rfl) (fun w1 c1 => (op_move (v := .int .i64 _) rfl)) ?_
              refine wq_val 80 (by kernel_rfl) (fun w1 c1 => (op_indexA 1 rfl rfl (by kernel_rfl) ((c1.own 2 rfl encI_len).addr (h94 (by rw [decide_eq_false h95] <;> rfl)).1 (h94 (by rw [decide_eq_false h95] <;> rfl)).2) (c1.ownZ 2 rfl).2.2 (h94 (by rw [decide_eq_false h95] <;> rfl)).1 (h94 (by rw [decide_eq_false h95] <;> rfl)).2)) ?_
              refine wq_val 81 (by kernel_rfl) (fun w1 c1 => (op_load (v := .int .i64 (ix r17.1 s90)) rfl (by kernel_rfl) ((c1.own 2 rfl encI_len).cell0 (h94 (by rw [decide_eq_false h95] <;> rfl)).1 (h94 (by rw [decide_eq_false h95] <;> rfl)).2 rfl))) ?_
              refine wq_val 82 (by kernel_rfl) (fun w1 c1 => (op_fieldL (m := 0) (k := 0) rfl (by kernel_rfl) rfl)) ?_
              refine wq_val 83 (by kernel_rfl) (fun w1 c1 => (op_fieldL (m := 3) (k := 3) rfl (by kernel_rfl) rfl)) ?_
              refine wq_val 84 (by kernel_rfl) (fun w1 c1 => (op_load rfl (by kernel_rfl) (c1.cell 0 (u := .slice _ _ _) rfl rfl))) ?_
              refine wq_val 85 (by kernel_rfl) (fun w1 c1 => (op_lenN rfl (by kernel_rfl) hz_p04.2.2)) ?_
              refine wq_val 86 (by kernel_rfl) (fun w1 c1 => (op_geq rfl rfl)) ?_
              refine wq_val 87 (by kernel_rfl) (fun w1 c1 => (op_pick_f (v := .bool _) rfl rfl)) ?_
              exact leaf_q (sub_out 16 _ rfl (by kernel_rfl) ⟨(congrArg Value.bool (by rw [decide_eq_false h95] <;> rfl)), trivial⟩)
          refine xm_next ?_
          refine cm_condB (by kernel_rfl) rfl (fun h96 => ?_) (fun h96 => ?_)
          · skip
            refine cm_seq ?_
            refine cm_region ?_
            refine lm_val 2 (by kernel_rfl) (fun w1 c1 => (op_assign (v := .bool false) rfl)) ?_
            refine lm_nil ?_
            refine xm_next ?_
            refine cm_ret ?_
            refine xm_thenR ?_
            refine xm_inR ?_
            refine xm_thenR ?_
            refine xm_lret ?_
            refine xm_inR ?_
            refine xm_lret ?_
            exact xm_retT rfl (by kernel_rfl) (show _ = Value.bool false from rfl) fun w1 c1 => ⟨(), rfl, hsub [] (by kernel_rfl) rfl w1 c1⟩
          · skip
            refine cm_skip ?_
            refine xm_next ?_
            refine cm_seq ?_
            refine cm_ck (fun h97 => ?_)
            refine cm_ck (fun h98 => ?_)
            refine cm_ck (fun h99 => ?_)
            refine cm_drawn [(112, .bool ((decide ((ix p0.Account.Emptyings (ix r17.1 s90)).ID = (ix p0.Bill.Items p0.Complaint.Item).Ref)) && (decide (r14.1.Err = 0))))] (by kernel_rfl) (by kernel_rfl) ?_ ?_
            · skip
              refine wq_val 88 (by kernel_rfl) (fun w1 c1 => (op_fieldL (m := 0) (k := 0) rfl (by kernel_rfl) rfl)) ?_
              refine wq_val 89 (by kernel_rfl) (fun w1 c1 => (op_fieldL (m := 3) (k := 3) rfl (by kernel_rfl) rfl)) ?_
              refine wq_val 90 (by kernel_rfl) (fun w1 c1 => (op_load rfl (by kernel_rfl) (c1.cell 0 (u := .slice _ _ _) rfl rfl))) ?_
              refine wq_val 91 (by kernel_rfl) (fun w1 c1 => (op_move (v := .slice _ _ _) rfl)) ?_
              refine wq_val 92 (by kernel_rfl) (fun w1 c1 => (op_move (v := .int .i64 _) rfl)) ?_
              refine wq_val 93 (by kernel_rfl) (fun w1 c1 => (op_indexA 1 rfl rfl (by kernel_rfl) ((c1.own 2 rfl encI_len).addr h97.1 h97.2) (c1.ownZ 2 rfl).2.2 h97.1 h97.2)) ?_
              refine wq_val 94 (by kernel_rfl) (fun w1 c1 => (op_load (v := .int .i64 (ix r17.1 s90)) rfl (by kernel_rfl) ((c1.own 2 rfl encI_len).cell0 h97.1 h97.2 rfl))) ?_
              refine wq_val 95 (by kernel_rfl) (fun w1 c1 => (op_indexA 7 rfl rfl (by kernel_rfl) ((hr_p04.old c1).addr h98.1 h98.2) hz_p04.2.2 h98.1 h98.2)) ?_
              refine wq_val 96 (by kernel_rfl) (fun w1 c1 => (op_field0 rfl (by kernel_rfl))) ?_
              refine wq_val 97 (by kernel_rfl) (fun w1 c1 => (op_load (v := .int .i64 ((ix p0.Account.Emptyings (ix r17.1 s90)).ID)) rfl (by kernel_rfl) ((hr_p04.old c1).cell0 h98.1 h98.2 rfl))) ?_
              refine wq_val 98 (by kernel_rfl) (fun w1 c1 => (op_fieldL (m := 6) (k := 6) rfl (by kernel_rfl) rfl)) ?_
              refine wq_val 99 (by kernel_rfl) (fun w1 c1 => (op_fieldL (m := 4) (k := 10) rfl (by kernel_rfl) rfl)) ?_
              refine wq_val 100 (by kernel_rfl) (fun w1 c1 => (op_load rfl (by kernel_rfl) (c1.cell 0 (u := .slice _ _ _) rfl rfl))) ?_
              refine wq_val 101 (by kernel_rfl) (fun w1 c1 => (op_fieldL (m := 12) (k := 12) rfl (by kernel_rfl) rfl)) ?_
              refine wq_val 102 (by kernel_rfl) (fun w1 c1 => (op_fieldL (m := 1) (k := 13) rfl (by kernel_rfl) rfl)) ?_
              refine wq_val 103 (by kernel_rfl) (fun w1 c1 => (op_load rfl (by kernel_rfl) (c1.cell 0 (u := .int .i64 _) rfl rfl))) ?_
              refine wq_val 104 (by kernel_rfl) (fun w1 c1 => (op_indexA 5 rfl rfl (by kernel_rfl) ((hr_p06.old c1).addr h99.1 h99.2) hz_p06.2.2 h99.1 h99.2)) ?_
              refine wq_val 105 (by kernel_rfl) (fun w1 c1 => (op_field (m := 1) rfl (by kernel_rfl))) ?_
              refine wq_val 106 (by kernel_rfl) (fun w1 c1 => (op_load (v := .int .i64 ((ix p0.Bill.Items p0.Complaint.Item).Ref)) rfl (by kernel_rfl) ((hr_p06.old c1).cell (j := 1) h99.1 h99.2 rfl))) ?_
              refine wq_dec 107 (by kernel_rfl) (fun w1 c1 => (op_eql rfl rfl)) (fun h100 => ?_) (fun h100 => ?_)
              · skip
                refine wq_val 108 (by kernel_rfl) (fun w1 c1 => (op_move (v := .bool true) rfl)) ?_
                refine wq_val 109 (by kernel_rfl) (fun w1 c1 => (op_fieldL (m := 1) (k := 1) rfl (by kernel_rfl) rfl)) ?_
                refine wq_val 110 (by kernel_rfl) (fun w1 c1 => (op_load rfl (by kernel_rfl) (c1.cell 1 (u := .int .i64 _) rfl rfl))) ?_
                refine wq_val 111 (by kernel_rfl) (fun w1 c1 => (op_eql rfl rfl)) ?_
                refine wq_val 112 (by kernel_rfl) (fun w1 c1 => (op_pick_t (v := .bool _) rfl rfl)) ?_
                exact leaf_q (sub_out 25 _ rfl (by kernel_rfl) ⟨(congrArg Value.bool (by rw [decide_eq_true h100] <;> rfl)), trivial⟩)
              · skip
                refine wq_val 108 (by kernel_rfl) (fun w1 c1 => (op_move (v := .bool false) rfl)) ?_
                refine wq_skip 109 (by kernel_rfl) ?_
                refine wq_skip 110 (by kernel_rfl) ?_
                refine wq_skip 111 (by kernel_rfl) ?_
                refine wq_val 112 (by kernel_rfl) (fun w1 c1 => (op_pick_f (v := .bool false) rfl rfl)) ?_
                exact leaf_q (sub_out 25 _ rfl (by kernel_rfl) ⟨(congrArg Value.bool (by rw [decide_eq_false h100] <;> rfl)), trivial⟩)
            refine xm_next ?_
            refine cm_condB (by kernel_rfl) rfl (fun h101 => ?_) (fun h101 => ?_)
            · skip
              refine cm_seq ?_
              refine cm_region ?_
              refine lm_val 2 (by kernel_rfl) (fun w1 c1 => (op_assign (v := .bool false) rfl)) ?_
              refine lm_nil ?_
              refine xm_next ?_
              refine cm_ret ?_
              refine xm_inR ?_
              refine xm_thenR ?_
              refine xm_lret ?_
              refine xm_inR ?_
              refine xm_lret ?_
              exact xm_retT rfl (by kernel_rfl) (show _ = Value.bool false from rfl) fun w1 c1 => ⟨(), rfl, hsub [] (by kernel_rfl) rfl w1 c1⟩
            · skip
              refine cm_skip ?_
              refine xm_inN ?_
              refine xm_next ?_
              refine cm_region ?_
              refine lm_val 70 (by kernel_rfl) (fun w1 c1 => (op_move (v := .int .i64 _) rfl)) ?_
              refine lm_ck (fun h102 => ?_)
              refine lm_val 71 (by kernel_rfl) (fun w1 c1 => (op_add rfl rfl h102)) ?_
              refine lm_val 7 (by kernel_rfl) (fun w1 c1 => (op_assign (v := .int .i64 _) rfl)) ?_
              refine lm_nil ?_
              exact xm_lnext () (sub_cons (by kernel_rfl) rfl (sub_cons (by kernel_rfl) rfl (sub_cons (by kernel_rfl) rfl (sub_cons (by kernel_rfl) rfl sub_nil)))) (hsub [0, 1, 2] (by kernel_rfl) rfl)
        · skip
          refine cm_exit ?_
          refine xm_thenE ?_
          refine xm_lexit ?_
          refine xm_here ?_
          exact xm_lnext () sub_nil (hsub [] (by kernel_rfl) rfl)
      intro s62 u63
      refine cm_seq ?_
      refine cm_region ?_
      refine lm_call 113 (V := (fun (r : Bool) (_u : Unit) => .bool r)) (HR := (fun (_r : Bool) (_u : Unit) => [])) (by kernel_rfl) (fun w1 => op_call (by kernel_rfl)) (fun r1 hr1 w1 c1 => m_recyclinglaw57_awake_ok N w1   r1 hr1) ?_
      intro r103 u104
      refine lm_val 2 (by kernel_rfl) (fun w1 c1 => (op_assign (v := .bool _) rfl)) ?_
      refine lm_nil ?_
      refine xm_next ?_
      refine cm_ret ?_
      exact xm_retT rfl (by kernel_rfl) (show _ = Value.bool _ from rfl) fun w1 c1 => ⟨(), rfl, hsub [] (by kernel_rfl) rfl w1 c1⟩
end Go.Proofs.Ytljogldcejcikaa
