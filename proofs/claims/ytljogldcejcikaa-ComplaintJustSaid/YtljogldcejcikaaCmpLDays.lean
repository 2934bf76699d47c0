/- Models of functions, and that the code follows them. Written by deco.py. -/
import Derived.Test.YtljogldcejcikaaCmpAwake
namespace Go.Proofs.Ytljogldcejcikaa
open Go.RowKit

/-- recyclinglaw57.ComplaintDays -/
def m_recyclinglaw57_ComplaintDays (N : Nat) (p0 : Recyclinglaw57Case) (p1 : Int) : Option (Bool) :=
  Option.bind (m_recyclinglaw57_few N p0.Account p0.Bill) fun r6 => ck ((!((((!r6) || (decide (p1 < 0))) || (decide (36524 < p1))) || (decide (p0.Days < 0)))) = true → I64 ((36524 : Int) - p1)) (
    (if (((((!r6) || (decide (p1 < 0))) || (decide (36524 < p1))) || (decide (p0.Days < 0))) || (decide (((36524 : Int) - p1) < p0.Days))) = true then
      Option.bind (m_recyclinglaw57_awake N) fun r14 => some (r14)
    else
      Option.bind (m_complaint_Decide N p0.Account p0.Bill p0.Complaint p0.Days) fun r16 => ck (I64 (p0.Days + p1)) (
        Option.bind (m_complaint_Decide N p0.Account p0.Bill p0.Complaint (p0.Days + p1)) fun r20 => (if r16.2 ≠ r20.2 then
          some (false)
        else
          (if r16.1.Err = 31 then
            ck (I64 (p0.Bill.When.To + p0.Days)) (
              ck (I64 ((p0.Bill.When.To + p0.Days) + p1)) (
                ck (I64 (((p0.Bill.When.To + p0.Days) + p1) * (86400 : Int))) (
                  callIf ((((decide (r16.2 = 0)) && (decide (r16.1.Credit = 0))) && ((decide (r20.1.Err = 31)) == (decide ((((p0.Bill.When.To + p0.Days) + p1) * (86400 : Int)) < p0.Complaint.At)))) = true) (m_recyclinglaw57_awake N) fun r28 => some (((((decide (r16.2 = 0)) && (decide (r16.1.Credit = 0))) && ((decide (r20.1.Err = 31)) == (decide ((((p0.Bill.When.To + p0.Days) + p1) * (86400 : Int)) < p0.Complaint.At)))) && r28)))))
          else
            callIf (decide (r16.1 = r20.1) = true) (m_recyclinglaw57_awake N) fun r33 => some (((decide (r16.1 = r20.1)) && r33)))))))
set_option maxHeartbeats 2000000 in
set_option maxRecDepth 20000 in
theorem m_recyclinglaw57_ComplaintDays_ok (N : Nat) (w0 : World) (p0 : Recyclinglaw57Case) (p1 : Int) (A_p01 : Option Addr) (n_p01 c_p01 : Nat) (A_p02 : Option Addr) (n_p02 c_p02 : Nat) (A_p03 : Option Addr) (n_p03 c_p03 : Nat) (A_p04 : Option Addr) (n_p04 c_p04 : Nat) (A_p05 : Option Addr) (n_p05 c_p05 : Nat) (A_p06 : Option Addr) (n_p06 c_p06 : Nat) (hr_p01 : RdE w0 2 encApiHousehold A_p01 p0.Account.Households) (hz_p01 : SW A_p01 n_p01 c_p01 (List.length p0.Account.Households)) (hr_p02 : RdE w0 5 encApiContainer A_p02 p0.Account.Containers) (hz_p02 : SW A_p02 n_p02 c_p02 (List.length p0.Account.Containers)) (hr_p03 : RdE w0 4 encApiAssign A_p03 p0.Account.Assigns) (hz_p03 : SW A_p03 n_p03 c_p03 (List.length p0.Account.Assigns)) (hr_p04 : RdE w0 7 encApiEmptying A_p04 p0.Account.Emptyings) (hz_p04 : SW A_p04 n_p04 c_p04 (List.length p0.Account.Emptyings)) (hr_p05 : RdE w0 5 encApiTariff A_p05 p0.Account.Tariffs) (hz_p05 : SW A_p05 n_p05 c_p05 (List.length p0.Account.Tariffs)) (hr_p06 : RdE w0 5 encApiItem A_p06 p0.Bill.Items) (hz_p06 : SW A_p06 n_p06 c_p06 (List.length p0.Bill.Items)) (r : Bool) (hr : m_recyclinglaw57_ComplaintDays N p0 p1 = some r) :
    Calls Try.prog 8 [.agg #[.slice A_p01 n_p01 c_p01, .slice A_p02 n_p02 c_p02, .slice A_p03 n_p03 c_p03, .slice A_p04 n_p04 c_p04, .slice A_p05 n_p05 c_p05, .int .i64 p0.Account.Gap, .int .i64 p0.Bill.ID, .int .i64 p0.Bill.Household, .int .i64 p0.Bill.When.From, .int .i64 p0.Bill.When.To, .slice A_p06 n_p06 c_p06, .int .i64 p0.Bill.Total, .int .i64 p0.Complaint.Bill, .int .i64 p0.Complaint.Item, .int .i64 p0.Complaint.At, .int .i64 p0.Complaint.Kind, .int .i64 p0.Days], .int .i64 p1].toArray w0 fun x w1 => ∃ u, x = .returned ((fun (r : Bool) (_u : Unit) => .bool r) r u) ∧ Hs w0 ((fun (_r : Bool) (_u : Unit) => []) r u) w1 := by
  refine calls_cm (n := 106) (R := fun r x w1 => ∃ u, x = .returned ((fun (r : Bool) (_u : Unit) => .bool r) r u) ∧ Hs w0 ((fun (_r : Bool) (_u : Unit) => []) r u) w1) Try.func8 rfl rfl (Nat.le_of_ble_eq_true rfl) ?_ r hr
  unfold m_recyclinglaw57_ComplaintDays
  refine cm_seq ?_
  refine cm_region ?_
  refine lm_box 2 [.slice _ _ _, .slice _ _ _, .slice _ _ _, .slice _ _ _, .slice _ _ _, .int .i64 _, .int .i64 _, .int .i64 _, .int .i64 _, .int .i64 _, .slice _ _ _, .int .i64 _, .int .i64 _, .int .i64 _, .int .i64 _, .int .i64 _, .int .i64 _] (by kernel_rfl) rfl ?_
  intro b5
  refine lm_val 4 (by kernel_rfl) (fun w1 c1 => (op_assign (v := .bool false) rfl)) ?_
  refine lm_nil ?_
  refine xm_next ?_
  refine cm_seq ?_
  refine cm_seq ?_
  refine cm_bind fun r6 h7 => ?_
  refine cm_ck (fun h8 => ?_)
  refine cm_cutE [(35, .bool (((((!r6) || (decide (p1 < 0))) || (decide (36524 < p1))) || (decide (p0.Days < 0))) || (decide (((36524 : Int) - p1) < p0.Days))))] ?_ ?_
  · skip
    refine wq_val 10 (by kernel_rfl) (fun w1 c1 => (op_fieldL (m := 0) (k := 0) rfl (by kernel_rfl) rfl)) ?_
    refine wq_val 11 (by kernel_rfl) (fun w1 c1 => (op_loadR [.slice _ _ _, .slice _ _ _, .slice _ _ _, .slice _ _ _, .slice _ _ _, .int .i64 _] rfl (by kernel_rfl) (c1.cells 0 rfl rfl))) ?_
    refine wq_val 12 (by kernel_rfl) (fun w1 c1 => (op_fieldL (m := 6) (k := 6) rfl (by kernel_rfl) rfl)) ?_
    refine wq_val 13 (by kernel_rfl) (fun w1 c1 => (op_loadR [.int .i64 _, .int .i64 _, .int .i64 _, .int .i64 _, .slice _ _ _, .int .i64 _] rfl (by kernel_rfl) (c1.cells 0 rfl rfl))) ?_
    refine wq_callb 14 (by kernel_rfl) (fun w1 c1 => op_call (by kernel_rfl)) (fun w1 c1 => (m_recyclinglaw57_few_ok N w1 p0.Account p0.Bill A_p01 n_p01 c_p01 A_p02 n_p02 c_p02 A_p03 n_p03 c_p03 A_p04 n_p04 c_p04 A_p05 n_p05 c_p05 A_p06 n_p06 c_p06 (hr_p01.old c1) hz_p01 (hr_p02.old c1) hz_p02 (hr_p03.old c1) hz_p03 (hr_p04.old c1) hz_p04 (hr_p05.old c1) hz_p05 (hr_p06.old c1) hz_p06 r6 h7).mono (fun _ _ ⟨_, hx, hu⟩ => ⟨hx, c1.call hu⟩)) (fun h9 => ?_) (fun h9 => ?_)
    · skip
      refine wq_val 15 (by kernel_rfl) (fun w1 c1 => (op_nott rfl)) ?_
      refine wq_val 16 (by kernel_rfl) (fun w1 c1 => (op_move (v := .bool false) rfl)) ?_
      refine wq_val 17 (by kernel_rfl) (fun w1 c1 => (op_move (v := .int .i64 _) rfl)) ?_
      refine wq_dec 18 (by kernel_rfl) (fun w1 c1 => (op_lss rfl rfl)) (fun h10 => ?_) (fun h10 => ?_)
      · skip
        refine wq_val 19 (by kernel_rfl) (fun w1 c1 => (op_pick_f (v := .bool true) rfl rfl)) ?_
        refine wq_val 20 (by kernel_rfl) (fun w1 c1 => (op_move (v := .bool true) rfl)) ?_
        refine wq_skip 21 (by kernel_rfl) ?_
        refine wq_skip 22 (by kernel_rfl) ?_
        refine wq_val 23 (by kernel_rfl) (fun w1 c1 => (op_pick_t (v := .bool true) rfl rfl)) ?_
        refine wq_val 24 (by kernel_rfl) (fun w1 c1 => (op_move (v := .bool true) rfl)) ?_
        refine wq_skip 25 (by kernel_rfl) ?_
        refine wq_skip 26 (by kernel_rfl) ?_
        refine wq_skip 27 (by kernel_rfl) ?_
        refine wq_val 28 (by kernel_rfl) (fun w1 c1 => (op_pick_t (v := .bool true) rfl rfl)) ?_
        refine wq_val 29 (by kernel_rfl) (fun w1 c1 => (op_move (v := .bool true) rfl)) ?_
        refine wq_skip 30 (by kernel_rfl) ?_
        refine wq_skip 31 (by kernel_rfl) ?_
        refine wq_skip 32 (by kernel_rfl) ?_
        refine wq_skip 33 (by kernel_rfl) ?_
        refine wq_skip 34 (by kernel_rfl) ?_
        refine wq_val 35 (by kernel_rfl) (fun w1 c1 => (op_pick_t (v := .bool true) rfl rfl)) ?_
        exact leaf_q (sub_out 26 _ rfl (by kernel_rfl) ⟨(congrArg Value.bool (by rw [h9, decide_eq_true h10] <;> rfl)), trivial⟩)
      · skip
        refine wq_val 19 (by kernel_rfl) (fun w1 c1 => (op_pick_f (v := .bool false) rfl rfl)) ?_
        refine wq_val 20 (by kernel_rfl) (fun w1 c1 => (op_move (v := .bool false) rfl)) ?_
        refine wq_val 21 (by kernel_rfl) (fun w1 c1 => (op_move (v := .int .i64 _) rfl)) ?_
        refine wq_dec 22 (by kernel_rfl) (fun w1 c1 => (op_gtr rfl rfl)) (fun h11 => ?_) (fun h11 => ?_)
        · skip
          refine wq_val 23 (by kernel_rfl) (fun w1 c1 => (op_pick_f (v := .bool true) rfl rfl)) ?_
          refine wq_val 24 (by kernel_rfl) (fun w1 c1 => (op_move (v := .bool true) rfl)) ?_
          refine wq_skip 25 (by kernel_rfl) ?_
          refine wq_skip 26 (by kernel_rfl) ?_
          refine wq_skip 27 (by kernel_rfl) ?_
          refine wq_val 28 (by kernel_rfl) (fun w1 c1 => (op_pick_t (v := .bool true) rfl rfl)) ?_
          refine wq_val 29 (by kernel_rfl) (fun w1 c1 => (op_move (v := .bool true) rfl)) ?_
          refine wq_skip 30 (by kernel_rfl) ?_
          refine wq_skip 31 (by kernel_rfl) ?_
          refine wq_skip 32 (by kernel_rfl) ?_
          refine wq_skip 33 (by kernel_rfl) ?_
          refine wq_skip 34 (by kernel_rfl) ?_
          refine wq_val 35 (by kernel_rfl) (fun w1 c1 => (op_pick_t (v := .bool true) rfl rfl)) ?_
          exact leaf_q (sub_out 26 _ rfl (by kernel_rfl) ⟨(congrArg Value.bool (by rw [h9, decide_eq_false h10, decide_eq_true h11] <;> rfl)), trivial⟩)
        · skip
          refine wq_val 23 (by kernel_rfl) (fun w1 c1 => (op_pick_f (v := .bool false) rfl rfl)) ?_
          refine wq_val 24 (by kernel_rfl) (fun w1 c1 => (op_move (v := .bool false) rfl)) ?_
          refine wq_val 25 (by kernel_rfl) (fun w1 c1 => (op_fieldL (m := 16) (k := 16) rfl (by kernel_rfl) rfl)) ?_
          refine wq_val 26 (by kernel_rfl) (fun w1 c1 => (op_load rfl (by kernel_rfl) (c1.cell 0 (u := .int .i64 _) rfl rfl))) ?_
          refine wq_dec 27 (by kernel_rfl) (fun w1 c1 => (op_lss rfl rfl)) (fun h12 => ?_) (fun h12 => ?_)
          · skip
            refine wq_val 28 (by kernel_rfl) (fun w1 c1 => (op_pick_f (v := .bool true) rfl rfl)) ?_
            refine wq_val 29 (by kernel_rfl) (fun w1 c1 => (op_move (v := .bool true) rfl)) ?_
            refine wq_skip 30 (by kernel_rfl) ?_
            refine wq_skip 31 (by kernel_rfl) ?_
            refine wq_skip 32 (by kernel_rfl) ?_
            refine wq_skip 33 (by kernel_rfl) ?_
            refine wq_skip 34 (by kernel_rfl) ?_
            refine wq_val 35 (by kernel_rfl) (fun w1 c1 => (op_pick_t (v := .bool true) rfl rfl)) ?_
            exact leaf_q (sub_out 26 _ rfl (by kernel_rfl) ⟨(congrArg Value.bool (by rw [h9, decide_eq_false h10, decide_eq_false h11, decide_eq_true h12] <;> rfl)), trivial⟩)
          · skip
            refine wq_val 28 (by kernel_rfl) (fun w1 c1 => (op_pick_f (v := .bool false) rfl rfl)) ?_
            refine wq_val 29 (by kernel_rfl) (fun w1 c1 => (op_move (v := .bool false) rfl)) ?_
            refine wq_val 30 (by kernel_rfl) (fun w1 c1 => (op_fieldL (m := 16) (k := 16) rfl (by kernel_rfl) rfl)) ?_
            refine wq_val 31 (by kernel_rfl) (fun w1 c1 => (op_load rfl (by kernel_rfl) (c1.cell 0 (u := .int .i64 _) rfl rfl))) ?_
            refine wq_val 32 (by kernel_rfl) (fun w1 c1 => (op_move (v := .int .i64 _) rfl)) ?_
            refine wq_val 33 (by kernel_rfl) (fun w1 c1 => (op_sub rfl rfl (h8 (by rw [h9, decide_eq_false h10, decide_eq_false h11, decide_eq_false h12] <;> rfl)))) ?_
            refine wq_val 34 (by kernel_rfl) (fun w1 c1 => (op_gtr rfl rfl)) ?_
            refine wq_val 35 (by kernel_rfl) (fun w1 c1 => (op_pick_f (v := .bool _) rfl rfl)) ?_
            exact leaf_q (sub_out 26 _ rfl (by kernel_rfl) ⟨(congrArg Value.bool (by rw [h9, decide_eq_false h10, decide_eq_false h11, decide_eq_false h12] <;> rfl)), trivial⟩)
    · skip
      refine wq_val 15 (by kernel_rfl) (fun w1 c1 => (op_notf rfl)) ?_
      refine wq_val 16 (by kernel_rfl) (fun w1 c1 => (op_move (v := .bool true) rfl)) ?_
      refine wq_skip 17 (by kernel_rfl) ?_
      refine wq_skip 18 (by kernel_rfl) ?_
      refine wq_val 19 (by kernel_rfl) (fun w1 c1 => (op_pick_t (v := .bool true) rfl rfl)) ?_
      refine wq_val 20 (by kernel_rfl) (fun w1 c1 => (op_move (v := .bool true) rfl)) ?_
      refine wq_skip 21 (by kernel_rfl) ?_
      refine wq_skip 22 (by kernel_rfl) ?_
      refine wq_val 23 (by kernel_rfl) (fun w1 c1 => (op_pick_t (v := .bool true) rfl rfl)) ?_
      refine wq_val 24 (by kernel_rfl) (fun w1 c1 => (op_move (v := .bool true) rfl)) ?_
      refine wq_skip 25 (by kernel_rfl) ?_
      refine wq_skip 26 (by kernel_rfl) ?_
      refine wq_skip 27 (by kernel_rfl) ?_
      refine wq_val 28 (by kernel_rfl) (fun w1 c1 => (op_pick_t (v := .bool true) rfl rfl)) ?_
      refine wq_val 29 (by kernel_rfl) (fun w1 c1 => (op_move (v := .bool true) rfl)) ?_
      refine wq_skip 30 (by kernel_rfl) ?_
      refine wq_skip 31 (by kernel_rfl) ?_
      refine wq_skip 32 (by kernel_rfl) ?_
      refine wq_skip 33 (by kernel_rfl) ?_
      refine wq_skip 34 (by kernel_rfl) ?_
      refine wq_val 35 (by kernel_rfl) (fun w1 c1 => (op_pick_t (v := .bool true) rfl rfl)) ?_
      exact leaf_q (sub_out 26 _ rfl (by kernel_rfl) ⟨(congrArg Value.bool (by rw [h9] <;> rfl)), trivial⟩)
  refine xm_next ?_
  refine cm_condB (by kernel_rfl) rfl (fun h13 => ?_) (fun h13 => ?_)
  · skip
    refine cm_seq ?_
    refine cm_region ?_
    refine lm_call 36 (V := (fun (r : Bool) (_u : Unit) => .bool r)) (HR := (fun (_r : Bool) (_u : Unit) => [])) (by kernel_rfl) (fun w1 => op_call (by kernel_rfl)) (fun r1 hr1 w1 c1 => m_recyclinglaw57_awake_ok N w1   r1 hr1) ?_
    intro r14 u15
    refine lm_val 4 (by kernel_rfl) (fun w1 c1 => (op_assign (v := .bool _) rfl)) ?_
    refine lm_nil ?_
    refine xm_next ?_
    refine cm_ret ?_
    refine xm_thenR ?_
    exact xm_retT rfl (by kernel_rfl) (show _ = Value.bool _ from rfl) fun w1 c1 => ⟨(), rfl, hsub [] (by kernel_rfl) rfl w1 c1⟩
  · skip
    refine cm_skip ?_
    refine xm_next ?_
    refine cm_seq ?_
    refine cm_region ?_
    refine lm_val 38 (by kernel_rfl) (fun w1 c1 => (op_fieldL (m := 0) (k := 0) rfl (by kernel_rfl) rfl)) ?_
    refine lm_val 39 (by kernel_rfl) (fun w1 c1 => (op_loadR [.slice _ _ _, .slice _ _ _, .slice _ _ _, .slice _ _ _, .slice _ _ _, .int .i64 _] rfl (by kernel_rfl) (c1.cells 0 rfl rfl))) ?_
    refine lm_val 40 (by kernel_rfl) (fun w1 c1 => (op_fieldL (m := 6) (k := 6) rfl (by kernel_rfl) rfl)) ?_
    refine lm_val 41 (by kernel_rfl) (fun w1 c1 => (op_loadR [.int .i64 _, .int .i64 _, .int .i64 _, .int .i64 _, .slice _ _ _, .int .i64 _] rfl (by kernel_rfl) (c1.cells 0 rfl rfl))) ?_
    refine lm_val 42 (by kernel_rfl) (fun w1 c1 => (op_fieldL (m := 12) (k := 12) rfl (by kernel_rfl) rfl)) ?_
    refine lm_val 43 (by kernel_rfl) (fun w1 c1 => (op_loadR [.int .i64 _, .int .i64 _, .int .i64 _, .int .i64 _] rfl (by kernel_rfl) (c1.cells 0 rfl rfl))) ?_
    refine lm_val 44 (by kernel_rfl) (fun w1 c1 => (op_fieldL (m := 16) (k := 16) rfl (by kernel_rfl) rfl)) ?_
    refine lm_val 45 (by kernel_rfl) (fun w1 c1 => (op_load rfl (by kernel_rfl) (c1.cell 0 (u := .int .i64 _) rfl rfl))) ?_
    refine lm_call 46 (V := (fun (r : ApiRuling × Int) (_u : Unit) => .tuple #[.agg #[.int .i64 r.1.Credit, .int .i64 r.1.Err], .int .i64 r.2])) (HR := (fun (_r : ApiRuling × Int) (_u : Unit) => [])) (by kernel_rfl) (fun w1 => op_call (by kernel_rfl)) (fun r1 hr1 w1 c1 => m_complaint_Decide_ok N w1 p0.Account p0.Bill p0.Complaint p0.Days A_p01 n_p01 c_p01 A_p02 n_p02 c_p02 A_p03 n_p03 c_p03 A_p04 n_p04 c_p04 A_p05 n_p05 c_p05 A_p06 n_p06 c_p06 (hr_p01.old c1) hz_p01 (hr_p02.old c1) hz_p02 (hr_p03.old c1) hz_p03 (hr_p04.old c1) hz_p04 (hr_p05.old c1) hz_p05 (hr_p06.old c1) hz_p06 r1 hr1) ?_
    intro r16 u17
    refine lm_val 37 (by kernel_rfl) (fun w1 c1 => (op_move (v := .tuple _) rfl)) ?_
    refine lm_val 47 (by kernel_rfl) (fun w1 c1 => (op_extract (v := .agg _) rfl rfl)) ?_
    refine lm_val 48 (by kernel_rfl) (fun w1 c1 => (op_extract (v := .int .i64 _) rfl rfl)) ?_
    refine lm_alloc 5 [.int .i64 0, .int .i64 0] (v := .agg #[.int .i64 0, .int .i64 0]) (by kernel_rfl) (by kernel_rfl) rfl ?_
    intro b18
    refine lm_storeA 0 [.int .i64 _, .int .i64 _] [_, _] (H' := [blkE _ _ [_, _], _]) (by kernel_rfl) rfl rfl (by kernel_rfl) rfl rfl (by kernel_rfl) rfl rfl ?_
    refine lm_val 6 (by kernel_rfl) (fun w1 c1 => (op_assign (v := .int .i64 _) rfl)) ?_
    refine lm_nil ?_
    refine xm_next ?_
    refine cm_seq ?_
    refine cm_region ?_
    refine lm_val 50 (by kernel_rfl) (fun w1 c1 => (op_fieldL (m := 0) (k := 0) rfl (by kernel_rfl) rfl)) ?_
    refine lm_val 51 (by kernel_rfl) (fun w1 c1 => (op_loadR [.slice _ _ _, .slice _ _ _, .slice _ _ _, .slice _ _ _, .slice _ _ _, .int .i64 _] rfl (by kernel_rfl) (c1.cells 1 rfl rfl))) ?_
    refine lm_val 52 (by kernel_rfl) (fun w1 c1 => (op_fieldL (m := 6) (k := 6) rfl (by kernel_rfl) rfl)) ?_
    refine lm_val 53 (by kernel_rfl) (fun w1 c1 => (op_loadR [.int .i64 _, .int .i64 _, .int .i64 _, .int .i64 _, .slice _ _ _, .int .i64 _] rfl (by kernel_rfl) (c1.cells 1 rfl rfl))) ?_
    refine lm_val 54 (by kernel_rfl) (fun w1 c1 => (op_fieldL (m := 12) (k := 12) rfl (by kernel_rfl) rfl)) ?_
    refine lm_val 55 (by kernel_rfl) (fun w1 c1 => (op_loadR [.int .i64 _, .int .i64 _, .int .i64 _, .int .i64 _] rfl (by kernel_rfl) (c1.cells 1 rfl rfl))) ?_
    refine lm_val 56 (by kernel_rfl) (fun w1 c1 => (op_fieldL (m := 16) (k := 16) rfl (by kernel_rfl) rfl)) ?_
    refine lm_val 57 (by kernel_rfl) (fun w1 c1 => (op_load rfl (by kernel_rfl) (c1.cell 1 (u := .int .i64 _) rfl rfl))) ?_
    refine lm_val 58 (by kernel_rfl) (fun w1 c1 => (op_move (v := .int .i64 _) rfl)) ?_
    refine lm_ck (fun h19 => ?_)
    refine lm_val 59 (by kernel_rfl) (fun w1 c1 => (op_add rfl rfl h19)) ?_
    refine lm_call 60 (V := (fun (r : ApiRuling × Int) (_u : Unit) => .tuple #[.agg #[.int .i64 r.1.Credit, .int .i64 r.1.Err], .int .i64 r.2])) (HR := (fun (_r : ApiRuling × Int) (_u : Unit) => [])) (by kernel_rfl) (fun w1 => op_call (by kernel_rfl)) (fun r1 hr1 w1 c1 => m_complaint_Decide_ok N w1 p0.Account p0.Bill p0.Complaint (p0.Days + p1) A_p01 n_p01 c_p01 A_p02 n_p02 c_p02 A_p03 n_p03 c_p03 A_p04 n_p04 c_p04 A_p05 n_p05 c_p05 A_p06 n_p06 c_p06 (hr_p01.old c1) hz_p01 (hr_p02.old c1) hz_p02 (hr_p03.old c1) hz_p03 (hr_p04.old c1) hz_p04 (hr_p05.old c1) hz_p05 (hr_p06.old c1) hz_p06 r1 hr1) ?_
    intro r20 u21
    refine lm_val 49 (by kernel_rfl) (fun w1 c1 => (op_move (v := .tuple _) rfl)) ?_
    refine lm_val 61 (by kernel_rfl) (fun w1 c1 => (op_extract (v := .agg _) rfl rfl)) ?_
    refine lm_val 62 (by kernel_rfl) (fun w1 c1 => (op_extract (v := .int .i64 _) rfl rfl)) ?_
    refine lm_alloc 7 [.int .i64 0, .int .i64 0] (v := .agg #[.int .i64 0, .int .i64 0]) (by kernel_rfl) (by kernel_rfl) rfl ?_
    intro b22
    refine lm_storeA 0 [.int .i64 _, .int .i64 _] [_, _] (H' := [blkE _ _ [_, _], _, _]) (by kernel_rfl) rfl rfl (by kernel_rfl) rfl rfl (by kernel_rfl) rfl rfl ?_
    refine lm_val 8 (by kernel_rfl) (fun w1 c1 => (op_assign (v := .int .i64 _) rfl)) ?_
    refine lm_nil ?_
    refine xm_next ?_
    refine cm_seq ?_
    refine cm_seq ?_
    refine cm_region ?_
    refine lm_val 63 (by kernel_rfl) (fun w1 c1 => (op_move (v := .int .i64 _) rfl)) ?_
    refine lm_val 64 (by kernel_rfl) (fun w1 c1 => (op_move (v := .int .i64 _) rfl)) ?_
    refine lm_val 65 (by kernel_rfl) (fun w1 c1 => (op_neq rfl rfl)) ?_
    refine lm_nil ?_
    refine xm_next ?_
    refine cm_cond (by kernel_rfl) rfl (fun h23 => ?_) (fun h23 => ?_)
    · skip
      refine cm_seq ?_
      refine cm_region ?_
      refine lm_val 4 (by kernel_rfl) (fun w1 c1 => (op_assign (v := .bool false) rfl)) ?_
      refine lm_nil ?_
      refine xm_next ?_
      refine cm_ret ?_
      refine xm_thenR ?_
      exact xm_retT rfl (by kernel_rfl) (show _ = Value.bool false from rfl) fun w1 c1 => ⟨(), rfl, hsub [] (by kernel_rfl) rfl w1 c1⟩
    · skip
      refine cm_skip ?_
      refine xm_next ?_
      refine cm_seq ?_
      refine cm_seq ?_
      refine cm_region ?_
      refine lm_val 66 (by kernel_rfl) (fun w1 c1 => (op_fieldL (m := 1) (k := 1) rfl (by kernel_rfl) rfl)) ?_
      refine lm_val 67 (by kernel_rfl) (fun w1 c1 => (op_load rfl (by kernel_rfl) (c1.cell 1 (u := .int .i64 _) rfl rfl))) ?_
      refine lm_val 68 (by kernel_rfl) (fun w1 c1 => (op_eql rfl rfl)) ?_
      refine lm_nil ?_
      refine xm_next ?_
      refine cm_cond (by kernel_rfl) rfl (fun h24 => ?_) (fun h24 => ?_)
      · skip
        refine cm_seq ?_
        refine cm_region ?_
        refine lm_val 69 (by kernel_rfl) (fun w1 c1 => (op_fieldL (m := 12) (k := 12) rfl (by kernel_rfl) rfl)) ?_
        refine lm_val 70 (by kernel_rfl) (fun w1 c1 => (op_fieldL (m := 2) (k := 14) rfl (by kernel_rfl) rfl)) ?_
        refine lm_val 71 (by kernel_rfl) (fun w1 c1 => (op_load rfl (by kernel_rfl) (c1.cell 2 (u := .int .i64 _) rfl rfl))) ?_
        refine lm_val 72 (by kernel_rfl) (fun w1 c1 => (op_fieldL (m := 6) (k := 6) rfl (by kernel_rfl) rfl)) ?_
        refine lm_val 73 (by kernel_rfl) (fun w1 c1 => (op_fieldL (m := 2) (k := 8) rfl (by kernel_rfl) rfl)) ?_
        refine lm_val 74 (by kernel_rfl) (fun w1 c1 => (op_fieldL (m := 1) (k := 9) rfl (by kernel_rfl) rfl)) ?_
        refine lm_val 75 (by kernel_rfl) (fun w1 c1 => (op_load rfl (by kernel_rfl) (c1.cell 2 (u := .int .i64 _) rfl rfl))) ?_
        refine lm_val 76 (by kernel_rfl) (fun w1 c1 => (op_fieldL (m := 16) (k := 16) rfl (by kernel_rfl) rfl)) ?_
        refine lm_val 77 (by kernel_rfl) (fun w1 c1 => (op_load rfl (by kernel_rfl) (c1.cell 2 (u := .int .i64 _) rfl rfl))) ?_
        refine lm_ck (fun h25 => ?_)
        refine lm_val 78 (by kernel_rfl) (fun w1 c1 => (op_add rfl rfl h25)) ?_
        refine lm_val 79 (by kernel_rfl) (fun w1 c1 => (op_move (v := .int .i64 _) rfl)) ?_
        refine lm_ck (fun h26 => ?_)
        refine lm_val 80 (by kernel_rfl) (fun w1 c1 => (op_add rfl rfl h26)) ?_
        refine lm_ck (fun h27 => ?_)
        refine lm_val 81 (by kernel_rfl) (fun w1 c1 => (op_mul rfl rfl h27)) ?_
        refine lm_val 82 (by kernel_rfl) (fun w1 c1 => (op_gtr rfl rfl)) ?_
        refine lm_val 9 (by kernel_rfl) (fun w1 c1 => (op_assign (v := .bool _) rfl)) ?_
        refine lm_nil ?_
        refine xm_next ?_
        refine cm_seq ?_
        refine cm_callIf fun r28 h29 => ?_
        refine cm_cutE [(4, .bool ((((decide (r16.2 = 0)) && (decide (r16.1.Credit = 0))) && ((decide (r20.1.Err = 31)) == (decide ((((p0.Bill.When.To + p0.Days) + p1) * (86400 : Int)) < p0.Complaint.At)))) && r28))] ?_ ?_
        · skip
          refine wq_val 83 (by kernel_rfl) (fun w1 c1 => (op_move (v := .int .i64 _) rfl)) ?_
          refine wq_dec 84 (by kernel_rfl) (fun w1 c1 => (op_eql rfl rfl)) (fun h30 => ?_) (fun h30 => ?_)
          · skip
            refine wq_val 85 (by kernel_rfl) (fun w1 c1 => (op_move (v := .bool true) rfl)) ?_
            refine wq_val 86 (by kernel_rfl) (fun w1 c1 => (op_fieldL (m := 0) (k := 0) rfl (by kernel_rfl) rfl)) ?_
            refine wq_val 87 (by kernel_rfl) (fun w1 c1 => (op_load rfl (by kernel_rfl) (c1.cell 1 (u := .int .i64 _) rfl rfl))) ?_
            refine wq_dec 88 (by kernel_rfl) (fun w1 c1 => (op_eql rfl rfl)) (fun h31 => ?_) (fun h31 => ?_)
            · skip
              refine wq_val 89 (by kernel_rfl) (fun w1 c1 => (op_pick_t (v := .bool true) rfl rfl)) ?_
              refine wq_val 90 (by kernel_rfl) (fun w1 c1 => (op_move (v := .bool true) rfl)) ?_
              refine wq_val 91 (by kernel_rfl) (fun w1 c1 => (op_fieldL (m := 1) (k := 1) rfl (by kernel_rfl) rfl)) ?_
              refine wq_val 92 (by kernel_rfl) (fun w1 c1 => (op_load rfl (by kernel_rfl) (c1.cell 0 (u := .int .i64 _) rfl rfl))) ?_
              refine wq_val 93 (by kernel_rfl) (fun w1 c1 => (op_eql rfl rfl)) ?_
              refine wq_val 94 (by kernel_rfl) (fun w1 c1 => (op_move (v := .bool _) rfl)) ?_
              refine wq_bool 95 (by kernel_rfl) (fun w1 c1 => (op_eqlB rfl rfl (by kernel_rfl))) (fun h32 => ?_) (fun h32 => ?_)
              · skip
                refine wq_val 96 (by kernel_rfl) (fun w1 c1 => (op_pick_t (v := .bool true) rfl rfl)) ?_
                refine wq_val 97 (by kernel_rfl) (fun w1 c1 => (op_move (v := .bool true) rfl)) ?_
                refine wq_call 98 (by kernel_rfl) (fun w1 c1 => op_call (by kernel_rfl)) (fun w1 c1 => (m_recyclinglaw57_awake_ok N w1   r28 (h29 (by rw [decide_eq_true h30, decide_eq_true h31, h32] <;> rfl))).mono (fun _ _ ⟨_, hx, hu⟩ => ⟨hx, c1.call hu⟩)) ?_
                refine wq_val 99 (by kernel_rfl) (fun w1 c1 => (op_pick_t (v := .bool _) rfl rfl)) ?_
                refine wq_val 4 (by kernel_rfl) (fun w1 c1 => (op_assign (v := .bool _) rfl)) ?_
                exact leaf_q (sub_out 18 _ rfl (by kernel_rfl) ⟨(congrArg Value.bool (by rw [decide_eq_true h30, decide_eq_true h31, h32] <;> rfl)), trivial⟩)
              · skip
                refine wq_val 96 (by kernel_rfl) (fun w1 c1 => (op_pick_t (v := .bool false) rfl rfl)) ?_
                refine wq_val 97 (by kernel_rfl) (fun w1 c1 => (op_move (v := .bool false) rfl)) ?_
                refine wq_skip 98 (by kernel_rfl) ?_
                refine wq_val 99 (by kernel_rfl) (fun w1 c1 => (op_pick_f (v := .bool false) rfl rfl)) ?_
                refine wq_val 4 (by kernel_rfl) (fun w1 c1 => (op_assign (v := .bool false) rfl)) ?_
                exact leaf_q (sub_out 18 _ rfl (by kernel_rfl) ⟨(congrArg Value.bool (by rw [decide_eq_true h30, decide_eq_true h31, h32] <;> rfl)), trivial⟩)
            · skip
              refine wq_val 89 (by kernel_rfl) (fun w1 c1 => (op_pick_t (v := .bool false) rfl rfl)) ?_
              refine wq_val 90 (by kernel_rfl) (fun w1 c1 => (op_move (v := .bool false) rfl)) ?_
              refine wq_skip 91 (by kernel_rfl) ?_
              refine wq_skip 92 (by kernel_rfl) ?_
              refine wq_skip 93 (by kernel_rfl) ?_
              refine wq_skip 94 (by kernel_rfl) ?_
              refine wq_skip 95 (by kernel_rfl) ?_
              refine wq_val 96 (by kernel_rfl) (fun w1 c1 => (op_pick_f (v := .bool false) rfl rfl)) ?_
              refine wq_val 97 (by kernel_rfl) (fun w1 c1 => (op_move (v := .bool false) rfl)) ?_
              refine wq_skip 98 (by kernel_rfl) ?_
              refine wq_val 99 (by kernel_rfl) (fun w1 c1 => (op_pick_f (v := .bool false) rfl rfl)) ?_
              refine wq_val 4 (by kernel_rfl) (fun w1 c1 => (op_assign (v := .bool false) rfl)) ?_
              exact leaf_q (sub_out 18 _ rfl (by kernel_rfl) ⟨(congrArg Value.bool (by rw [decide_eq_true h30, decide_eq_false h31] <;> rfl)), trivial⟩)
          · skip
            refine wq_val 85 (by kernel_rfl) (fun w1 c1 => (op_move (v := .bool false) rfl)) ?_
            refine wq_skip 86 (by kernel_rfl) ?_
            refine wq_skip 87 (by kernel_rfl) ?_
            refine wq_skip 88 (by kernel_rfl) ?_
            refine wq_val 89 (by kernel_rfl) (fun w1 c1 => (op_pick_f (v := .bool false) rfl rfl)) ?_
            refine wq_val 90 (by kernel_rfl) (fun w1 c1 => (op_move (v := .bool false) rfl)) ?_
            refine wq_skip 91 (by kernel_rfl) ?_
            refine wq_skip 92 (by kernel_rfl) ?_
            refine wq_skip 93 (by kernel_rfl) ?_
            refine wq_skip 94 (by kernel_rfl) ?_
            refine wq_skip 95 (by kernel_rfl) ?_
            refine wq_val 96 (by kernel_rfl) (fun w1 c1 => (op_pick_f (v := .bool false) rfl rfl)) ?_
            refine wq_val 97 (by kernel_rfl) (fun w1 c1 => (op_move (v := .bool false) rfl)) ?_
            refine wq_skip 98 (by kernel_rfl) ?_
            refine wq_val 99 (by kernel_rfl) (fun w1 c1 => (op_pick_f (v := .bool false) rfl rfl)) ?_
            refine wq_val 4 (by kernel_rfl) (fun w1 c1 => (op_assign (v := .bool false) rfl)) ?_
            exact leaf_q (sub_out 18 _ rfl (by kernel_rfl) ⟨(congrArg Value.bool (by rw [decide_eq_false h30] <;> rfl)), trivial⟩)
        refine xm_next ?_
        refine cm_ret ?_
        refine xm_thenR ?_
        exact xm_retT rfl (by kernel_rfl) (show _ = Value.bool _ from rfl) fun w1 c1 => ⟨(), rfl, hsub [] (by kernel_rfl) rfl w1 c1⟩
      · skip
        refine cm_skip ?_
        refine xm_next ?_
        refine cm_seq ?_
        refine cm_callIf fun r33 h34 => ?_
        refine cm_cutE [(4, .bool ((decide (r16.1 = r20.1)) && r33))] ?_ ?_
        · skip
          refine wq_val 100 (by kernel_rfl) (fun w1 c1 => (op_loadR [.int .i64 _, .int .i64 _] rfl (by kernel_rfl) (c1.cells 1 rfl rfl))) ?_
          refine wq_val 101 (by kernel_rfl) (fun w1 c1 => (op_loadR [.int .i64 _, .int .i64 _] rfl (by kernel_rfl) (c1.cells 0 rfl rfl))) ?_
          refine wq_dec 102 (by kernel_rfl) (fun w1 c1 => (op_eqApiRuling r16.1 r20.1 rfl rfl)) (fun h35 => ?_) (fun h35 => ?_)
          · skip
            refine wq_val 103 (by kernel_rfl) (fun w1 c1 => (op_move (v := .bool true) rfl)) ?_
            refine wq_call 104 (by kernel_rfl) (fun w1 c1 => op_call (by kernel_rfl)) (fun w1 c1 => (m_recyclinglaw57_awake_ok N w1   r33 (h34 (by rw [decide_eq_true h35] <;> rfl))).mono (fun _ _ ⟨_, hx, hu⟩ => ⟨hx, c1.call hu⟩)) ?_
            refine wq_val 105 (by kernel_rfl) (fun w1 c1 => (op_pick_t (v := .bool _) rfl rfl)) ?_
            refine wq_val 4 (by kernel_rfl) (fun w1 c1 => (op_assign (v := .bool _) rfl)) ?_
            exact leaf_q (sub_out 7 _ rfl (by kernel_rfl) ⟨(congrArg Value.bool (by rw [decide_eq_true h35] <;> rfl)), trivial⟩)
          · skip
            refine wq_val 103 (by kernel_rfl) (fun w1 c1 => (op_move (v := .bool false) rfl)) ?_
            refine wq_skip 104 (by kernel_rfl) ?_
            refine wq_val 105 (by kernel_rfl) (fun w1 c1 => (op_pick_f (v := .bool false) rfl rfl)) ?_
            refine wq_val 4 (by kernel_rfl) (fun w1 c1 => (op_assign (v := .bool false) rfl)) ?_
            exact leaf_q (sub_out 7 _ rfl (by kernel_rfl) ⟨(congrArg Value.bool (by rw [decide_eq_false h35] <;> rfl)), trivial⟩)
        refine xm_next ?_
        refine cm_ret ?_
        exact xm_retT rfl (by kernel_rfl) (show _ = Value.bool _ from rfl) fun w1 c1 => ⟨(), rfl, hsub [] (by kernel_rfl) rfl w1 c1⟩
end Go.Proofs.Ytljogldcejcikaa
