/- Models of functions, and that the code follows them. Written by deco.py. -/
import Derived.Test.YtljogldcejcikaaCmpAwake
namespace Go.Proofs.Ytljogldcejcikaa
open Go.RowKit

/-- recyclinglaw57.ComplaintBounded -/
def m_recyclinglaw57_ComplaintBounded (N : Nat) (p0 : Recyclinglaw57Case) : Option (Bool) :=
  Option.bind (m_recyclinglaw57_few N p0.Account p0.Bill) fun r6 => (if (!r6) = true then
    Option.bind (m_recyclinglaw57_awake N) fun r9 => some (r9)
  else
    Option.bind (m_complaint_Decide N p0.Account p0.Bill p0.Complaint p0.Days) fun r11 => (if ((decide (r11.2 ≠ 0)) || (decide (r11.1.Err ≠ 0))) = true then
      callIf ((((decide (r11.2 = 0)) || (decide (r11.1 = (ApiRuling.mk 0 0)))) && (decide (r11.1.Credit = 0))) = true) (m_recyclinglaw57_awake N) fun r16 => some (((((decide (r11.2 = 0)) || (decide (r11.1 = (ApiRuling.mk 0 0)))) && (decide (r11.1.Credit = 0))) && r16))
    else
      (if ((decide (p0.Complaint.Item < 0)) || (decide ((List.length p0.Bill.Items : Int) ≤ p0.Complaint.Item))) = true then
        some (false)
      else
        ck ((0 : Int) ≤ p0.Complaint.Item ∧ p0.Complaint.Item < (List.length p0.Bill.Items : Int)) (
          Option.bind (m_complaint_Rest N p0.Bill ((ix p0.Bill.Items p0.Complaint.Item).Ref)) fun r26 => (if (((decide (r26.2 ≠ 0)) || (decide (r11.1.Credit < 1))) || (decide (r26.1 < r11.1.Credit))) = true then
            some (false)
          else
            Option.bind (m_emptying_Counts N p0.Account.Emptyings p0.Account.Gap) fun r31 => (if r31.2 ≠ 0 then
              some (false)
            else
              (andThen
                (loopM (fun (s526 : Bool × Int) =>
                  (if s526.2 < (List.length p0.Account.Emptyings : Int) then
                    (andThen
                      (ck ((0 : Int) ≤ s526.2 ∧ s526.2 < (List.length p0.Account.Emptyings : Int)) (
                        (if (ix p0.Account.Emptyings s526.2).ID ≠ (ix p0.Bill.Items p0.Complaint.Item).Ref then
                          some (.next s526.1)
                        else
                          (andThen
                            (loopM (fun (s610 : Bool × Int) =>
                              (if s610.2 < (List.length r31.1 : Int) then
                                ck ((!s610.1) = true → (0 : Int) ≤ s610.2 ∧ s610.2 < (List.length r31.1 : Int)) (
                                  ck (I64 (s610.2 + (1 : Int))) (
                                    some (.next ((s610.1 || (decide ((ix r31.1 s610.2) = s526.2))), (s610.2 + (1 : Int))))))
                              else
                                some (.done (.next s610.1)))) N (false, (0 : Int)))
                          fun (s597 : Bool) =>
                            (if p0.Complaint.Kind = 1 then
                              some (.next (((ix p0.Account.Emptyings s526.2).Void) && (decide (r11.1.Credit = r26.1))))
                            else
                              (if p0.Complaint.Kind = 2 then
                                some (.next (((!((ix p0.Account.Emptyings s526.2).Void)) && (!s597)) && (decide (r11.1.Credit = r26.1))))
                              else
                                (if p0.Complaint.Kind = 3 then
                                  some (.next ((decide ((ix p0.Bill.Items p0.Complaint.Item).Kind = 3)) && (decide (r11.1.Credit ≤ (ix p0.Bill.Items p0.Complaint.Item).Amount))))
                                else
                                  some (.next s526.1))))))))
                    fun (s575 : Bool) =>
                      ck (I64 (s526.2 + (1 : Int))) (
                        some (.next (s575, (s526.2 + (1 : Int))))))
                  else
                    some (.done (.next s526.1)))) N (false, (0 : Int)))
              fun (s328 : Bool) =>
                (if (!s328) = true then
                  some (false)
                else
                  Option.bind (m_complaint_Apply N p0.Bill p0.Complaint r11.1) fun r625 => (if r625.2 ≠ 0 then
                    callIf (((((decide (1000000000000 < r11.1.Credit)) || (decide (512 ≤ (List.length p0.Bill.Items : Int)))) || (decide (p0.Bill.Total < -1000000000000))) || (decide (1000000000000 < p0.Bill.Total))) = true) (m_recyclinglaw57_awake N) fun r629 => some ((((((decide (1000000000000 < r11.1.Credit)) || (decide (512 ≤ (List.length p0.Bill.Items : Int)))) || (decide (p0.Bill.Total < -1000000000000))) || (decide (1000000000000 < p0.Bill.Total))) && r629))
                  else
                    Option.bind (m_complaint_Rest N r625.1 ((ix p0.Bill.Items p0.Complaint.Item).Ref)) fun r635 => ck ((!(decide (r635.2 ≠ 0))) = true → I64 (r26.1 - r11.1.Credit)) (
                      ck ((!((decide (r635.2 ≠ 0)) || (decide (r635.1 ≠ (r26.1 - r11.1.Credit))))) = true → I64 (p0.Bill.Total - r11.1.Credit)) (
                        ck ((!(((decide (r635.2 ≠ 0)) || (decide (r635.1 ≠ (r26.1 - r11.1.Credit)))) || (decide (r625.1.Total ≠ (p0.Bill.Total - r11.1.Credit))))) = true → I64 ((List.length p0.Bill.Items : Int) + (1 : Int))) (
                          (if ((((decide (r635.2 ≠ 0)) || (decide (r635.1 ≠ (r26.1 - r11.1.Credit)))) || (decide (r625.1.Total ≠ (p0.Bill.Total - r11.1.Credit)))) || (decide ((List.length r625.1.Items : Int) ≠ ((List.length p0.Bill.Items : Int) + (1 : Int))))) = true then
                            some (false)
                          else
                            (if p0.Complaint.Kind = 3 then
                              Option.bind (m_recyclinglaw57_awake N) fun r645 => some (r645)
                            else
                              Option.bind (m_complaint_Decide N p0.Account r625.1 p0.Complaint p0.Days) fun r647 => callIf (((decide (r647.2 = 0)) && (decide (r647.1 = (ApiRuling.mk 0 13)))) = true) (m_recyclinglaw57_awake N) fun r650 => some ((((decide (r647.2 = 0)) && (decide (r647.1 = (ApiRuling.mk 0 13)))) && r650))))))))))))))))
set_option maxHeartbeats 2000000 in
set_option maxRecDepth 20000 in
theorem m_recyclinglaw57_ComplaintBounded_ok (N : Nat) (w0 : World) (p0 : Recyclinglaw57Case) (A_p01 : Option Addr) (n_p01 c_p01 : Nat) (A_p02 : Option Addr) (n_p02 c_p02 : Nat) (A_p03 : Option Addr) (n_p03 c_p03 : Nat) (A_p04 : Option Addr) (n_p04 c_p04 : Nat) (A_p05 : Option Addr) (n_p05 c_p05 : Nat) (A_p06 : Option Addr) (n_p06 c_p06 : Nat) (hr_p01 : RdE w0 2 encApiHousehold A_p01 p0.Account.Households) (hz_p01 : SW A_p01 n_p01 c_p01 (List.length p0.Account.Households)) (hr_p02 : RdE w0 5 encApiContainer A_p02 p0.Account.Containers) (hz_p02 : SW A_p02 n_p02 c_p02 (List.length p0.Account.Containers)) (hr_p03 : RdE w0 4 encApiAssign A_p03 p0.Account.Assigns) (hz_p03 : SW A_p03 n_p03 c_p03 (List.length p0.Account.Assigns)) (hr_p04 : RdE w0 7 encApiEmptying A_p04 p0.Account.Emptyings) (hz_p04 : SW A_p04 n_p04 c_p04 (List.length p0.Account.Emptyings)) (hr_p05 : RdE w0 5 encApiTariff A_p05 p0.Account.Tariffs) (hz_p05 : SW A_p05 n_p05 c_p05 (List.length p0.Account.Tariffs)) (hr_p06 : RdE w0 5 encApiItem A_p06 p0.Bill.Items) (hz_p06 : SW A_p06 n_p06 c_p06 (List.length p0.Bill.Items)) (r : Bool) (hr : m_recyclinglaw57_ComplaintBounded N p0 = some r) :
    Calls Try.prog 6 [.agg #[.slice A_p01 n_p01 c_p01, .slice A_p02 n_p02 c_p02, .slice A_p03 n_p03 c_p03, .slice A_p04 n_p04 c_p04, .slice A_p05 n_p05 c_p05, .int .i64 p0.Account.Gap, .int .i64 p0.Bill.ID, .int .i64 p0.Bill.Household, .int .i64 p0.Bill.When.From, .int .i64 p0.Bill.When.To, .slice A_p06 n_p06 c_p06, .int .i64 p0.Bill.Total, .int .i64 p0.Complaint.Bill, .int .i64 p0.Complaint.Item, .int .i64 p0.Complaint.At, .int .i64 p0.Complaint.Kind, .int .i64 p0.Days]].toArray w0 fun x w1 => ∃ u, x = .returned ((fun (r : Bool) (_u : Unit) => .bool r) r u) ∧ Hs w0 ((fun (_r : Bool) (_u : Unit) => []) r u) w1 := by
  refine calls_cm (n := 292) (R := fun r x w1 => ∃ u, x = .returned ((fun (r : Bool) (_u : Unit) => .bool r) r u) ∧ Hs w0 ((fun (_r : Bool) (_u : Unit) => []) r u) w1) Try.func6 rfl rfl (Nat.le_of_ble_eq_true rfl) ?_ r hr
  unfold m_recyclinglaw57_ComplaintBounded
  refine cm_seq ?_
  refine cm_region ?_
  refine lm_box 1 [.slice _ _ _, .slice _ _ _, .slice _ _ _, .slice _ _ _, .slice _ _ _, .int .i64 _, .int .i64 _, .int .i64 _, .int .i64 _, .int .i64 _, .slice _ _ _, .int .i64 _, .int .i64 _, .int .i64 _, .int .i64 _, .int .i64 _, .int .i64 _] (by kernel_rfl) rfl ?_
  intro b5
  refine lm_val 2 (by kernel_rfl) (fun w1 c1 => (op_assign (v := .bool false) rfl)) ?_
  refine lm_nil ?_
  refine xm_next ?_
  refine cm_seq ?_
  refine cm_seq ?_
  refine cm_region ?_
  refine lm_val 22 (by kernel_rfl) (fun w1 c1 => (op_fieldL (m := 0) (k := 0) rfl (by kernel_rfl) rfl)) ?_
  refine lm_val 23 (by kernel_rfl) (fun w1 c1 => (op_loadR [.slice _ _ _, .slice _ _ _, .slice _ _ _, .slice _ _ _, .slice _ _ _, .int .i64 _] rfl (by kernel_rfl) (c1.cells 0 rfl rfl))) ?_
  refine lm_val 24 (by kernel_rfl) (fun w1 c1 => (op_fieldL (m := 6) (k := 6) rfl (by kernel_rfl) rfl)) ?_
  refine lm_val 25 (by kernel_rfl) (fun w1 c1 => (op_loadR [.int .i64 _, .int .i64 _, .int .i64 _, .int .i64 _, .slice _ _ _, .int .i64 _] rfl (by kernel_rfl) (c1.cells 0 rfl rfl))) ?_
  refine lm_call 26 (V := (fun (r : Bool) (_u : Unit) => .bool r)) (HR := (fun (_r : Bool) (_u : Unit) => [])) (by kernel_rfl) (fun w1 => op_call (by kernel_rfl)) (fun r1 hr1 w1 c1 => m_recyclinglaw57_few_ok N w1 p0.Account p0.Bill A_p01 n_p01 c_p01 A_p02 n_p02 c_p02 A_p03 n_p03 c_p03 A_p04 n_p04 c_p04 A_p05 n_p05 c_p05 A_p06 n_p06 c_p06 (hr_p01.old c1) hz_p01 (hr_p02.old c1) hz_p02 (hr_p03.old c1) hz_p03 (hr_p04.old c1) hz_p04 (hr_p05.old c1) hz_p05 (hr_p06.old c1) hz_p06 r1 hr1) ?_
  intro r6 u7
  refine lm_val 27 (by kernel_rfl) (fun w1 c1 => (op_not rfl)) ?_
  refine lm_nil ?_
  refine xm_next ?_
  refine cm_condB (by kernel_rfl) rfl (fun h8 => ?_) (fun h8 => ?_)
  · skip
    refine cm_seq ?_
    refine cm_region ?_
    refine lm_call 28 (V := (fun (r : Bool) (_u : Unit) => .bool r)) (HR := (fun (_r : Bool) (_u : Unit) => [])) (by kernel_rfl) (fun w1 => op_call (by kernel_rfl)) (fun r1 hr1 w1 c1 => m_recyclinglaw57_awake_ok N w1   r1 hr1) ?_
    intro r9 u10
    refine lm_val 2 (by kernel_rfl) (fun w1 c1 => (op_assign (v := .bool _) rfl)) ?_
    refine lm_nil ?_
    refine xm_next ?_
    refine cm_ret ?_
    refine xm_thenR ?_
    exact xm_retT rfl (by kernel_rfl) (show _ = Value.bool _ from rfl) fun w1 c1 => ⟨(), rfl, hsub [] (by kernel_rfl) rfl w1 c1⟩
  · skip
    refine cm_skip ?_
    refine xm_next ?_
    refine cm_seq ?_
    refine cm_region ?_
    refine lm_val 30 (by kernel_rfl) (fun w1 c1 => (op_fieldL (m := 0) (k := 0) rfl (by kernel_rfl) rfl)) ?_
    refine lm_val 31 (by kernel_rfl) (fun w1 c1 => (op_loadR [.slice _ _ _, .slice _ _ _, .slice _ _ _, .slice _ _ _, .slice _ _ _, .int .i64 _] rfl (by kernel_rfl) (c1.cells 0 rfl rfl))) ?_
    refine lm_val 32 (by kernel_rfl) (fun w1 c1 => (op_fieldL (m := 6) (k := 6) rfl (by kernel_rfl) rfl)) ?_
    refine lm_val 33 (by kernel_rfl) (fun w1 c1 => (op_loadR [.int .i64 _, .int .i64 _, .int .i64 _, .int .i64 _, .slice _ _ _, .int .i64 _] rfl (by kernel_rfl) (c1.cells 0 rfl rfl))) ?_
    refine lm_val 34 (by kernel_rfl) (fun w1 c1 => (op_fieldL (m := 12) (k := 12) rfl (by kernel_rfl) rfl)) ?_
    refine lm_val 35 (by kernel_rfl) (fun w1 c1 => (op_loadR [.int .i64 _, .int .i64 _, .int .i64 _, .int .i64 _] rfl (by kernel_rfl) (c1.cells 0 rfl rfl))) ?_
    refine lm_val 36 (by kernel_rfl) (fun w1 c1 => (op_fieldL (m := 16) (k := 16) rfl (by kernel_rfl) rfl)) ?_
    refine lm_val 37 (by kernel_rfl) (fun w1 c1 => (op_load rfl (by kernel_rfl) (c1.cell 0 (u := .int .i64 _) rfl rfl))) ?_
    refine lm_call 38 (V := (fun (r : ApiRuling × Int) (_u : Unit) => .tuple #[.agg #[.int .i64 r.1.Credit, .int .i64 r.1.Err], .int .i64 r.2])) (HR := (fun (_r : ApiRuling × Int) (_u : Unit) => [])) (by kernel_rfl) (fun w1 => op_call (by kernel_rfl)) (fun r1 hr1 w1 c1 => m_complaint_Decide_ok N w1 p0.Account p0.Bill p0.Complaint p0.Days A_p01 n_p01 c_p01 A_p02 n_p02 c_p02 A_p03 n_p03 c_p03 A_p04 n_p04 c_p04 A_p05 n_p05 c_p05 A_p06 n_p06 c_p06 (hr_p01.old c1) hz_p01 (hr_p02.old c1) hz_p02 (hr_p03.old c1) hz_p03 (hr_p04.old c1) hz_p04 (hr_p05.old c1) hz_p05 (hr_p06.old c1) hz_p06 r1 hr1) ?_
    intro r11 u12
    refine lm_val 29 (by kernel_rfl) (fun w1 c1 => (op_move (v := .tuple _) rfl)) ?_
    refine lm_val 39 (by kernel_rfl) (fun w1 c1 => (op_extract (v := .agg _) rfl rfl)) ?_
    refine lm_val 40 (by kernel_rfl) (fun w1 c1 => (op_extract (v := .int .i64 _) rfl rfl)) ?_
    refine lm_alloc 3 [.int .i64 0, .int .i64 0] (v := .agg #[.int .i64 0, .int .i64 0]) (by kernel_rfl) (by kernel_rfl) rfl ?_
    intro b13
    refine lm_storeA 0 [.int .i64 _, .int .i64 _] [_, _] (H' := [blkE _ _ [_, _], _]) (by kernel_rfl) rfl rfl (by kernel_rfl) rfl rfl (by kernel_rfl) rfl rfl ?_
    refine lm_val 4 (by kernel_rfl) (fun w1 c1 => (op_assign (v := .int .i64 _) rfl)) ?_
    refine lm_nil ?_
    refine xm_next ?_
    refine cm_seq ?_
    refine cm_seq ?_
    refine cm_cutE [(47, .bool ((decide (r11.2 ≠ 0)) || (decide (r11.1.Err ≠ 0))))] ?_ ?_
    · skip
      refine wq_val 41 (by kernel_rfl) (fun w1 c1 => (op_move (v := .int .i64 _) rfl)) ?_
      refine wq_dec 42 (by kernel_rfl) (fun w1 c1 => (op_neq rfl rfl)) (fun h14 => ?_) (fun h14 => ?_)
      · skip
        refine wq_val 43 (by kernel_rfl) (fun w1 c1 => (op_move (v := .bool true) rfl)) ?_
        refine wq_skip 44 (by kernel_rfl) ?_
        refine wq_skip 45 (by kernel_rfl) ?_
        refine wq_skip 46 (by kernel_rfl) ?_
        refine wq_val 47 (by kernel_rfl) (fun w1 c1 => (op_pick_t (v := .bool true) rfl rfl)) ?_
        exact leaf_q (sub_out 7 _ rfl (by kernel_rfl) ⟨(congrArg Value.bool (by rw [decide_eq_true h14] <;> rfl)), trivial⟩)
      · skip
        refine wq_val 43 (by kernel_rfl) (fun w1 c1 => (op_move (v := .bool false) rfl)) ?_
        refine wq_val 44 (by kernel_rfl) (fun w1 c1 => (op_fieldL (m := 1) (k := 1) rfl (by kernel_rfl) rfl)) ?_
        refine wq_val 45 (by kernel_rfl) (fun w1 c1 => (op_load rfl (by kernel_rfl) (c1.cell 0 (u := .int .i64 _) rfl rfl))) ?_
        refine wq_val 46 (by kernel_rfl) (fun w1 c1 => (op_neq rfl rfl)) ?_
        refine wq_val 47 (by kernel_rfl) (fun w1 c1 => (op_pick_f (v := .bool _) rfl rfl)) ?_
        exact leaf_q (sub_out 7 _ rfl (by kernel_rfl) ⟨(congrArg Value.bool (by rw [decide_eq_false h14] <;> rfl)), trivial⟩)
    refine xm_next ?_
    refine cm_condB (by kernel_rfl) rfl (fun h15 => ?_) (fun h15 => ?_)
    · skip
      refine cm_seq ?_
      refine cm_callIf fun r16 h17 => ?_
      refine cm_cutE [(2, .bool ((((decide (r11.2 = 0)) || (decide (r11.1 = (ApiRuling.mk 0 0)))) && (decide (r11.1.Credit = 0))) && r16))] ?_ ?_
      · skip
        refine wq_val 48 (by kernel_rfl) (fun w1 c1 => (op_move (v := .int .i64 _) rfl)) ?_
        refine wq_dec 49 (by kernel_rfl) (fun w1 c1 => (op_eql rfl rfl)) (fun h18 => ?_) (fun h18 => ?_)
        · skip
          refine wq_val 50 (by kernel_rfl) (fun w1 c1 => (op_move (v := .bool true) rfl)) ?_
          refine wq_skip 51 (by kernel_rfl) ?_
          refine wq_skip 52 (by kernel_rfl) ?_
          refine wq_skip 53 (by kernel_rfl) ?_
          refine wq_val 54 (by kernel_rfl) (fun w1 c1 => (op_pick_t (v := .bool true) rfl rfl)) ?_
          refine wq_val 55 (by kernel_rfl) (fun w1 c1 => (op_move (v := .bool true) rfl)) ?_
          refine wq_val 56 (by kernel_rfl) (fun w1 c1 => (op_fieldL (m := 0) (k := 0) rfl (by kernel_rfl) rfl)) ?_
          refine wq_val 57 (by kernel_rfl) (fun w1 c1 => (op_load rfl (by kernel_rfl) (c1.cell 0 (u := .int .i64 _) rfl rfl))) ?_
          refine wq_dec 58 (by kernel_rfl) (fun w1 c1 => (op_eql rfl rfl)) (fun h19 => ?_) (fun h19 => ?_)
          · skip
            refine wq_val 59 (by kernel_rfl) (fun w1 c1 => (op_pick_t (v := .bool true) rfl rfl)) ?_
            refine wq_val 60 (by kernel_rfl) (fun w1 c1 => (op_move (v := .bool true) rfl)) ?_
            refine wq_call 61 (by kernel_rfl) (fun w1 c1 => op_call (by kernel_rfl)) (fun w1 c1 => (m_recyclinglaw57_awake_ok N w1   r16 (h17 (by rw [decide_eq_true h18, decide_eq_true h19] <;> rfl))).mono (fun _ _ ⟨_, hx, hu⟩ => ⟨hx, c1.call hu⟩)) ?_
            refine wq_val 62 (by kernel_rfl) (fun w1 c1 => (op_pick_t (v := .bool _) rfl rfl)) ?_
            refine wq_val 2 (by kernel_rfl) (fun w1 c1 => (op_assign (v := .bool _) rfl)) ?_
            exact leaf_q (sub_out 16 _ rfl (by kernel_rfl) ⟨(congrArg Value.bool (by rw [decide_eq_true h18, decide_eq_true h19] <;> rfl)), trivial⟩)
          · skip
            refine wq_val 59 (by kernel_rfl) (fun w1 c1 => (op_pick_t (v := .bool false) rfl rfl)) ?_
            refine wq_val 60 (by kernel_rfl) (fun w1 c1 => (op_move (v := .bool false) rfl)) ?_
            refine wq_skip 61 (by kernel_rfl) ?_
            refine wq_val 62 (by kernel_rfl) (fun w1 c1 => (op_pick_f (v := .bool false) rfl rfl)) ?_
            refine wq_val 2 (by kernel_rfl) (fun w1 c1 => (op_assign (v := .bool false) rfl)) ?_
            exact leaf_q (sub_out 16 _ rfl (by kernel_rfl) ⟨(congrArg Value.bool (by rw [decide_eq_true h18, decide_eq_false h19] <;> rfl)), trivial⟩)
        · skip
          refine wq_val 50 (by kernel_rfl) (fun w1 c1 => (op_move (v := .bool false) rfl)) ?_
          refine wq_val 51 (by kernel_rfl) (fun w1 c1 => (op_loadR [.int .i64 _, .int .i64 _] rfl (by kernel_rfl) (c1.cells 0 rfl rfl))) ?_
          refine wq_val 52 (by kernel_rfl) (fun w1 c1 => (op_build (z := [.int .i64 0, .int .i64 0]) (tab := [(0, 1), (1, 1)]) (cs := [.int .i64 _, .int .i64 _]) [] (by kernel_rfl) (by kernel_rfl) fillOk_nil rfl)) ?_
          refine wq_dec 53 (by kernel_rfl) (fun w1 c1 => (op_eqApiRuling r11.1 (ApiRuling.mk 0 0) rfl rfl)) (fun h20 => ?_) (fun h20 => ?_)
          · skip
            refine wq_val 54 (by kernel_rfl) (fun w1 c1 => (op_pick_f (v := .bool true) rfl rfl)) ?_
            refine wq_val 55 (by kernel_rfl) (fun w1 c1 => (op_move (v := .bool true) rfl)) ?_
            refine wq_val 56 (by kernel_rfl) (fun w1 c1 => (op_fieldL (m := 0) (k := 0) rfl (by kernel_rfl) rfl)) ?_
            refine wq_val 57 (by kernel_rfl) (fun w1 c1 => (op_load rfl (by kernel_rfl) (c1.cell 0 (u := .int .i64 _) rfl rfl))) ?_
            refine wq_dec 58 (by kernel_rfl) (fun w1 c1 => (op_eql rfl rfl)) (fun h21 => ?_) (fun h21 => ?_)
            · skip
              refine wq_val 59 (by kernel_rfl) (fun w1 c1 => (op_pick_t (v := .bool true) rfl rfl)) ?_
              refine wq_val 60 (by kernel_rfl) (fun w1 c1 => (op_move (v := .bool true) rfl)) ?_
              refine wq_call 61 (by kernel_rfl) (fun w1 c1 => op_call (by kernel_rfl)) (fun w1 c1 => (m_recyclinglaw57_awake_ok N w1   r16 (h17 (by rw [decide_eq_false h18, decide_eq_true h20, decide_eq_true h21] <;> rfl))).mono (fun _ _ ⟨_, hx, hu⟩ => ⟨hx, c1.call hu⟩)) ?_
              refine wq_val 62 (by kernel_rfl) (fun w1 c1 => (op_pick_t (v := .bool _) rfl rfl)) ?_
              refine wq_val 2 (by kernel_rfl) (fun w1 c1 => (op_assign (v := .bool _) rfl)) ?_
              exact leaf_q (sub_out 16 _ rfl (by kernel_rfl) ⟨(congrArg Value.bool (by rw [decide_eq_false h18, decide_eq_true h20, decide_eq_true h21] <;> rfl)), trivial⟩)
            · skip
              refine wq_val 59 (by kernel_rfl) (fun w1 c1 => (op_pick_t (v := .bool false) rfl rfl)) ?_
              refine wq_val 60 (by kernel_rfl) (fun w1 c1 => (op_move (v := .bool false) rfl)) ?_
              refine wq_skip 61 (by kernel_rfl) ?_
              refine wq_val 62 (by kernel_rfl) (fun w1 c1 => (op_pick_f (v := .bool false) rfl rfl)) ?_
              refine wq_val 2 (by kernel_rfl) (fun w1 c1 => (op_assign (v := .bool false) rfl)) ?_
              exact leaf_q (sub_out 16 _ rfl (by kernel_rfl) ⟨(congrArg Value.bool (by rw [decide_eq_false h18, decide_eq_true h20, decide_eq_false h21] <;> rfl)), trivial⟩)
          · skip
            refine wq_val 54 (by kernel_rfl) (fun w1 c1 => (op_pick_f (v := .bool false) rfl rfl)) ?_
            refine wq_val 55 (by kernel_rfl) (fun w1 c1 => (op_move (v := .bool false) rfl)) ?_
            refine wq_skip 56 (by kernel_rfl) ?_
            refine wq_skip 57 (by kernel_rfl) ?_
            refine wq_skip 58 (by kernel_rfl) ?_
            refine wq_val 59 (by kernel_rfl) (fun w1 c1 => (op_pick_f (v := .bool false) rfl rfl)) ?_
            refine wq_val 60 (by kernel_rfl) (fun w1 c1 => (op_move (v := .bool false) rfl)) ?_
            refine wq_skip 61 (by kernel_rfl) ?_
            refine wq_val 62 (by kernel_rfl) (fun w1 c1 => (op_pick_f (v := .bool false) rfl rfl)) ?_
            refine wq_val 2 (by kernel_rfl) (fun w1 c1 => (op_assign (v := .bool false) rfl)) ?_
            exact leaf_q (sub_out 16 _ rfl (by kernel_rfl) ⟨(congrArg Value.bool (by rw [decide_eq_false h18, decide_eq_false h20] <;> rfl)), trivial⟩)
      refine xm_next ?_
      refine cm_ret ?_
      refine xm_thenR ?_
      exact xm_retT rfl (by kernel_rfl) (show _ = Value.bool _ from rfl) fun w1 c1 => ⟨(), rfl, hsub [] (by kernel_rfl) rfl w1 c1⟩
    · skip
      refine cm_skip ?_
      refine xm_next ?_
      refine cm_seq ?_
      refine cm_region ?_
      refine lm_val 63 (by kernel_rfl) (fun w1 c1 => (op_fieldL (m := 12) (k := 12) rfl (by kernel_rfl) rfl)) ?_
      refine lm_val 64 (by kernel_rfl) (fun w1 c1 => (op_fieldL (m := 1) (k := 13) rfl (by kernel_rfl) rfl)) ?_
      refine lm_val 65 (by kernel_rfl) (fun w1 c1 => (op_load rfl (by kernel_rfl) (c1.cell 1 (u := .int .i64 _) rfl rfl))) ?_
      refine lm_val 5 (by kernel_rfl) (fun w1 c1 => (op_assign (v := .int .i64 _) rfl)) ?_
      refine lm_nil ?_
      refine xm_next ?_
      refine cm_seq ?_
      refine cm_seq ?_
      refine cm_cutE [(75, .bool ((decide (p0.Complaint.Item < 0)) || (decide ((List.length p0.Bill.Items : Int) ≤ p0.Complaint.Item))))] ?_ ?_
      · skip
        refine wq_val 66 (by kernel_rfl) (fun w1 c1 => (op_move (v := .int .i64 _) rfl)) ?_
        refine wq_dec 67 (by kernel_rfl) (fun w1 c1 => (op_lss rfl rfl)) (fun h22 => ?_) (fun h22 => ?_)
        · skip
          refine wq_val 68 (by kernel_rfl) (fun w1 c1 => (op_move (v := .bool true) rfl)) ?_
          refine wq_skip 69 (by kernel_rfl) ?_
          refine wq_skip 70 (by kernel_rfl) ?_
          refine wq_skip 71 (by kernel_rfl) ?_
          refine wq_skip 72 (by kernel_rfl) ?_
          refine wq_skip 73 (by kernel_rfl) ?_
          refine wq_skip 74 (by kernel_rfl) ?_
          refine wq_val 75 (by kernel_rfl) (fun w1 c1 => (op_pick_t (v := .bool true) rfl rfl)) ?_
          exact leaf_q (sub_out 10 _ rfl (by kernel_rfl) ⟨(congrArg Value.bool (by rw [decide_eq_true h22] <;> rfl)), trivial⟩)
        · skip
          refine wq_val 68 (by kernel_rfl) (fun w1 c1 => (op_move (v := .bool false) rfl)) ?_
          refine wq_val 69 (by kernel_rfl) (fun w1 c1 => (op_move (v := .int .i64 _) rfl)) ?_
          refine wq_val 70 (by kernel_rfl) (fun w1 c1 => (op_fieldL (m := 6) (k := 6) rfl (by kernel_rfl) rfl)) ?_
          refine wq_val 71 (by kernel_rfl) (fun w1 c1 => (op_fieldL (m := 4) (k := 10) rfl (by kernel_rfl) rfl)) ?_
          refine wq_val 72 (by kernel_rfl) (fun w1 c1 => (op_load rfl (by kernel_rfl) (c1.cell 1 (u := .slice _ _ _) rfl rfl))) ?_
          refine wq_val 73 (by kernel_rfl) (fun w1 c1 => (op_lenN rfl (by kernel_rfl) hz_p06.2.2)) ?_
          refine wq_val 74 (by kernel_rfl) (fun w1 c1 => (op_geq rfl rfl)) ?_
          refine wq_val 75 (by kernel_rfl) (fun w1 c1 => (op_pick_f (v := .bool _) rfl rfl)) ?_
          exact leaf_q (sub_out 10 _ rfl (by kernel_rfl) ⟨(congrArg Value.bool (by rw [decide_eq_false h22] <;> rfl)), trivial⟩)
      refine xm_next ?_
      refine cm_condB (by kernel_rfl) rfl (fun h23 => ?_) (fun h23 => ?_)
      · skip
        refine cm_seq ?_
        refine cm_region ?_
        refine lm_val 2 (by kernel_rfl) (fun w1 c1 => (op_assign (v := .bool false) rfl)) ?_
        refine lm_nil ?_
        refine xm_next ?_
        refine cm_ret ?_
        refine xm_thenR ?_
        exact xm_retT rfl (by kernel_rfl) (show _ = Value.bool false from rfl) fun w1 c1 => ⟨(), rfl, hsub [] (by kernel_rfl) rfl w1 c1⟩
      · skip
        refine cm_skip ?_
        refine xm_next ?_
        refine cm_seq ?_
        refine cm_region ?_
        refine lm_val 76 (by kernel_rfl) (fun w1 c1 => (op_fieldL (m := 6) (k := 6) rfl (by kernel_rfl) rfl)) ?_
        refine lm_val 77 (by kernel_rfl) (fun w1 c1 => (op_fieldL (m := 4) (k := 10) rfl (by kernel_rfl) rfl)) ?_
        refine lm_val 78 (by kernel_rfl) (fun w1 c1 => (op_load rfl (by kernel_rfl) (c1.cell 1 (u := .slice _ _ _) rfl rfl))) ?_
        refine lm_val 79 (by kernel_rfl) (fun w1 c1 => (op_move (v := .int .i64 _) rfl)) ?_
        refine lm_ck (fun h24 => ?_)
        refine lm_val 80 (by kernel_rfl) (fun w1 c1 => (op_indexA 5 rfl rfl (by kernel_rfl) ((hr_p06.old c1).addr h24.1 h24.2) hz_p06.2.2 h24.1 h24.2)) ?_
        refine lm_val 81 (by kernel_rfl) (fun w1 c1 => (op_loadR [.int .i64 ((ix p0.Bill.Items p0.Complaint.Item).Kind), .int .i64 ((ix p0.Bill.Items p0.Complaint.Item).Ref), .int .i64 ((ix p0.Bill.Items p0.Complaint.Item).Count), .int .i64 ((ix p0.Bill.Items p0.Complaint.Item).Price), .int .i64 ((ix p0.Bill.Items p0.Complaint.Item).Amount)] rfl (by kernel_rfl) ((hr_p06.old c1).row h24.1 h24.2))) ?_
        refine lm_alloc 6 [.int .i64 0, .int .i64 0, .int .i64 0, .int .i64 0, .int .i64 0] (v := .agg #[.int .i64 0, .int .i64 0, .int .i64 0, .int .i64 0, .int .i64 0]) (by kernel_rfl) (by kernel_rfl) rfl ?_
        intro b25
        refine lm_storeA 0 [.int .i64 _, .int .i64 _, .int .i64 _, .int .i64 _, .int .i64 _] [_, _, _, _, _] (H' := [blkE _ _ [_, _, _, _, _], _, _]) (by kernel_rfl) rfl rfl (by kernel_rfl) rfl rfl (by kernel_rfl) rfl rfl ?_
        refine lm_nil ?_
        refine xm_next ?_
        refine cm_seq ?_
        refine cm_region ?_
        refine lm_val 83 (by kernel_rfl) (fun w1 c1 => (op_fieldL (m := 6) (k := 6) rfl (by kernel_rfl) rfl)) ?_
        refine lm_val 84 (by kernel_rfl) (fun w1 c1 => (op_loadR [.int .i64 _, .int .i64 _, .int .i64 _, .int .i64 _, .slice _ _ _, .int .i64 _] rfl (by kernel_rfl) (c1.cells 2 rfl rfl))) ?_
        refine lm_val 85 (by kernel_rfl) (fun w1 c1 => (op_fieldL (m := 1) (k := 1) rfl (by kernel_rfl) rfl)) ?_
        refine lm_val 86 (by kernel_rfl) (fun w1 c1 => (op_load rfl (by kernel_rfl) (c1.cell 0 (u := .int .i64 _) rfl rfl))) ?_
        refine lm_call 87 (V := (fun (r : Int × Int) (_u : Unit) => .tuple #[.int .i64 r.1, .int .i64 r.2])) (HR := (fun (_r : Int × Int) (_u : Unit) => [])) (by kernel_rfl) (fun w1 => op_call (by kernel_rfl)) (fun r1 hr1 w1 c1 => m_complaint_Rest_ok N w1 p0.Bill ((ix p0.Bill.Items p0.Complaint.Item).Ref) A_p06 n_p06 c_p06 (hr_p06.old c1) hz_p06 r1 hr1) ?_
        intro r26 u27
        refine lm_val 82 (by kernel_rfl) (fun w1 c1 => (op_move (v := .tuple _) rfl)) ?_
        refine lm_val 88 (by kernel_rfl) (fun w1 c1 => (op_extract (v := .int .i64 _) rfl rfl)) ?_
        refine lm_val 89 (by kernel_rfl) (fun w1 c1 => (op_extract (v := .int .i64 _) rfl rfl)) ?_
        refine lm_val 7 (by kernel_rfl) (fun w1 c1 => (op_assign (v := .int .i64 _) rfl)) ?_
        refine lm_val 8 (by kernel_rfl) (fun w1 c1 => (op_assign (v := .int .i64 _) rfl)) ?_
        refine lm_nil ?_
        refine xm_next ?_
        refine cm_seq ?_
        refine cm_seq ?_
        refine cm_cutE [(102, .bool (((decide (r26.2 ≠ 0)) || (decide (r11.1.Credit < 1))) || (decide (r26.1 < r11.1.Credit))))] ?_ ?_
        · skip
          refine wq_val 90 (by kernel_rfl) (fun w1 c1 => (op_move (v := .int .i64 _) rfl)) ?_
          refine wq_dec 91 (by kernel_rfl) (fun w1 c1 => (op_neq rfl rfl)) (fun h28 => ?_) (fun h28 => ?_)
          · skip
            refine wq_val 92 (by kernel_rfl) (fun w1 c1 => (op_move (v := .bool true) rfl)) ?_
            refine wq_skip 93 (by kernel_rfl) ?_
            refine wq_skip 94 (by kernel_rfl) ?_
            refine wq_skip 95 (by kernel_rfl) ?_
            refine wq_val 96 (by kernel_rfl) (fun w1 c1 => (op_pick_t (v := .bool true) rfl rfl)) ?_
            refine wq_val 97 (by kernel_rfl) (fun w1 c1 => (op_move (v := .bool true) rfl)) ?_
            refine wq_skip 98 (by kernel_rfl) ?_
            refine wq_skip 99 (by kernel_rfl) ?_
            refine wq_skip 100 (by kernel_rfl) ?_
            refine wq_skip 101 (by kernel_rfl) ?_
            refine wq_val 102 (by kernel_rfl) (fun w1 c1 => (op_pick_t (v := .bool true) rfl rfl)) ?_
            exact leaf_q (sub_out 13 _ rfl (by kernel_rfl) ⟨(congrArg Value.bool (by rw [decide_eq_true h28] <;> rfl)), trivial⟩)
          · skip
            refine wq_val 92 (by kernel_rfl) (fun w1 c1 => (op_move (v := .bool false) rfl)) ?_
            refine wq_val 93 (by kernel_rfl) (fun w1 c1 => (op_fieldL (m := 0) (k := 0) rfl (by kernel_rfl) rfl)) ?_
            refine wq_val 94 (by kernel_rfl) (fun w1 c1 => (op_load rfl (by kernel_rfl) (c1.cell 1 (u := .int .i64 _) rfl rfl))) ?_
            refine wq_dec 95 (by kernel_rfl) (fun w1 c1 => (op_lss rfl rfl)) (fun h29 => ?_) (fun h29 => ?_)
            · skip
              refine wq_val 96 (by kernel_rfl) (fun w1 c1 => (op_pick_f (v := .bool true) rfl rfl)) ?_
              refine wq_val 97 (by kernel_rfl) (fun w1 c1 => (op_move (v := .bool true) rfl)) ?_
              refine wq_skip 98 (by kernel_rfl) ?_
              refine wq_skip 99 (by kernel_rfl) ?_
              refine wq_skip 100 (by kernel_rfl) ?_
              refine wq_skip 101 (by kernel_rfl) ?_
              refine wq_val 102 (by kernel_rfl) (fun w1 c1 => (op_pick_t (v := .bool true) rfl rfl)) ?_
              exact leaf_q (sub_out 13 _ rfl (by kernel_rfl) ⟨(congrArg Value.bool (by rw [decide_eq_false h28, decide_eq_true h29] <;> rfl)), trivial⟩)
            · skip
              refine wq_val 96 (by kernel_rfl) (fun w1 c1 => (op_pick_f (v := .bool false) rfl rfl)) ?_
              refine wq_val 97 (by kernel_rfl) (fun w1 c1 => (op_move (v := .bool false) rfl)) ?_
              refine wq_val 98 (by kernel_rfl) (fun w1 c1 => (op_fieldL (m := 0) (k := 0) rfl (by kernel_rfl) rfl)) ?_
              refine wq_val 99 (by kernel_rfl) (fun w1 c1 => (op_load rfl (by kernel_rfl) (c1.cell 1 (u := .int .i64 _) rfl rfl))) ?_
              refine wq_val 100 (by kernel_rfl) (fun w1 c1 => (op_move (v := .int .i64 _) rfl)) ?_
              refine wq_val 101 (by kernel_rfl) (fun w1 c1 => (op_gtr rfl rfl)) ?_
              refine wq_val 102 (by kernel_rfl) (fun w1 c1 => (op_pick_f (v := .bool _) rfl rfl)) ?_
              exact leaf_q (sub_out 13 _ rfl (by kernel_rfl) ⟨(congrArg Value.bool (by rw [decide_eq_false h28, decide_eq_false h29] <;> rfl)), trivial⟩)
        refine xm_next ?_
        refine cm_condB (by kernel_rfl) rfl (fun h30 => ?_) (fun h30 => ?_)
        · skip
          refine cm_seq ?_
          refine cm_region ?_
          refine lm_val 2 (by kernel_rfl) (fun w1 c1 => (op_assign (v := .bool false) rfl)) ?_
          refine lm_nil ?_
          refine xm_next ?_
          refine cm_ret ?_
          refine xm_thenR ?_
          exact xm_retT rfl (by kernel_rfl) (show _ = Value.bool false from rfl) fun w1 c1 => ⟨(), rfl, hsub [] (by kernel_rfl) rfl w1 c1⟩
        · skip
          refine cm_skip ?_
          refine xm_next ?_
          refine cm_seq ?_
          refine cm_region ?_
          refine lm_val 104 (by kernel_rfl) (fun w1 c1 => (op_fieldL (m := 0) (k := 0) rfl (by kernel_rfl) rfl)) ?_
          refine lm_val 105 (by kernel_rfl) (fun w1 c1 => (op_fieldL (m := 3) (k := 3) rfl (by kernel_rfl) rfl)) ?_
          refine lm_val 106 (by kernel_rfl) (fun w1 c1 => (op_load rfl (by kernel_rfl) (c1.cell 2 (u := .slice _ _ _) rfl rfl))) ?_
          refine lm_val 107 (by kernel_rfl) (fun w1 c1 => (op_fieldL (m := 0) (k := 0) rfl (by kernel_rfl) rfl)) ?_
          refine lm_val 108 (by kernel_rfl) (fun w1 c1 => (op_fieldL (m := 5) (k := 5) rfl (by kernel_rfl) rfl)) ?_
          refine lm_val 109 (by kernel_rfl) (fun w1 c1 => (op_load rfl (by kernel_rfl) (c1.cell 2 (u := .int .i64 _) rfl rfl))) ?_
          refine lm_call 110 (V := (fun (r : (List Int) × Int) (u : (Option Addr) × Nat × Nat) => .tuple #[.slice u.1 u.2.1 u.2.2, .int .i64 r.2])) (HR := (fun (r : (List Int) × Int) (u : (Option Addr) × Nat × Nat) => [ownE 3 1 encI u.1 u.2.1 u.2.2 r.1])) (by kernel_rfl) (fun w1 => op_call (by kernel_rfl)) (fun r1 hr1 w1 c1 => m_emptying_Counts_ok N w1 p0.Account.Emptyings p0.Account.Gap A_p04 n_p04 c_p04 (hr_p04.old c1) hz_p04 r1 hr1) ?_
          intro r31 u32
          refine lm_val 103 (by kernel_rfl) (fun w1 c1 => (op_move (v := .tuple _) rfl)) ?_
          refine lm_val 111 (by kernel_rfl) (fun w1 c1 => (op_extract (v := .slice _ _ _) rfl rfl)) ?_
          refine lm_val 112 (by kernel_rfl) (fun w1 c1 => (op_extract (v := .int .i64 _) rfl rfl)) ?_
          refine lm_val 9 (by kernel_rfl) (fun w1 c1 => (op_assign (v := .slice _ _ _) rfl)) ?_
          refine lm_val 10 (by kernel_rfl) (fun w1 c1 => (op_assign (v := .int .i64 _) rfl)) ?_
          refine lm_nil ?_
          refine xm_next ?_
          refine cm_seq ?_
          refine cm_seq ?_
          refine cm_region ?_
          refine lm_val 113 (by kernel_rfl) (fun w1 c1 => (op_move (v := .int .i64 _) rfl)) ?_
          refine lm_val 114 (by kernel_rfl) (fun w1 c1 => (op_neq rfl rfl)) ?_
          refine lm_nil ?_
          refine xm_next ?_
          refine cm_cond (by kernel_rfl) rfl (fun h33 => ?_) (fun h33 => ?_)
          · skip
            refine cm_seq ?_
            refine cm_region ?_
            refine lm_val 2 (by kernel_rfl) (fun w1 c1 => (op_assign (v := .bool false) rfl)) ?_
            refine lm_nil ?_
            refine xm_next ?_
            refine cm_ret ?_
            refine xm_thenR ?_
            exact xm_retT rfl (by kernel_rfl) (show _ = Value.bool false from rfl) fun w1 c1 => ⟨(), rfl, hsub [] (by kernel_rfl) rfl w1 c1⟩
          · skip
            refine cm_skip ?_
            refine xm_next ?_
            refine cm_seq ?_
            refine cm_region ?_
            refine lm_val 11 (by kernel_rfl) (fun w1 c1 => (op_assign (v := .bool false) rfl)) ?_
            refine lm_nil ?_
            refine xm_next ?_
            refine cm_join (σ := Bool) (ξ := Unit) (fun s328 u329 => [(1, .pointer (some ⟨b5, 0, none⟩)), (3, .pointer (some ⟨b13, 0, none⟩)), (6, .pointer (some ⟨b25, 0, none⟩)), (7, .int .i64 r26.1), (11, .bool s328)]) (fun s328 u329 => [blkE b5 50 [.slice A_p01 n_p01 c_p01, .slice A_p02 n_p02 c_p02, .slice A_p03 n_p03 c_p03, .slice A_p04 n_p04 c_p04, .slice A_p05 n_p05 c_p05, .int .i64 p0.Account.Gap, .int .i64 p0.Bill.ID, .int .i64 p0.Bill.Household, .int .i64 p0.Bill.When.From, .int .i64 p0.Bill.When.To, .slice A_p06 n_p06 c_p06, .int .i64 p0.Bill.Total, .int .i64 p0.Complaint.Bill, .int .i64 p0.Complaint.Item, .int .i64 p0.Complaint.At, .int .i64 p0.Complaint.Kind, .int .i64 p0.Days], blkE b13 37 [.int .i64 r11.1.Credit, .int .i64 r11.1.Err], blkE b25 55 [.int .i64 ((ix p0.Bill.Items p0.Complaint.Item).Kind), .int .i64 ((ix p0.Bill.Items p0.Complaint.Item).Ref), .int .i64 ((ix p0.Bill.Items p0.Complaint.Item).Count), .int .i64 ((ix p0.Bill.Items p0.Complaint.Item).Price), .int .i64 ((ix p0.Bill.Items p0.Complaint.Item).Amount)]]) ?_ ?_
            · skip
              refine cm_seq ?_
              refine cm_region ?_
              refine lm_val 12 (by kernel_rfl) (fun w1 c1 => (op_assign (v := .int .i64 _) rfl)) ?_
              refine lm_nil ?_
              refine xm_next ?_
              refine cm_block ?_
              refine cm_loop (σ := Bool × Int) (ξ := Unit) (fun s526 u527 => [(1, .pointer (some ⟨b5, 0, none⟩)), (3, .pointer (some ⟨b13, 0, none⟩)), (6, .pointer (some ⟨b25, 0, none⟩)), (7, .int .i64 r26.1), (9, .slice u32.1 u32.2.1 u32.2.2), (11, .bool s526.1), (12, .int .i64 s526.2)]) (fun s526 u527 => [blkE b5 50 [.slice A_p01 n_p01 c_p01, .slice A_p02 n_p02 c_p02, .slice A_p03 n_p03 c_p03, .slice A_p04 n_p04 c_p04, .slice A_p05 n_p05 c_p05, .int .i64 p0.Account.Gap, .int .i64 p0.Bill.ID, .int .i64 p0.Bill.Household, .int .i64 p0.Bill.When.From, .int .i64 p0.Bill.When.To, .slice A_p06 n_p06 c_p06, .int .i64 p0.Bill.Total, .int .i64 p0.Complaint.Bill, .int .i64 p0.Complaint.Item, .int .i64 p0.Complaint.At, .int .i64 p0.Complaint.Kind, .int .i64 p0.Days], blkE b13 37 [.int .i64 r11.1.Credit, .int .i64 r11.1.Err], blkE b25 55 [.int .i64 ((ix p0.Bill.Items p0.Complaint.Item).Kind), .int .i64 ((ix p0.Bill.Items p0.Complaint.Item).Ref), .int .i64 ((ix p0.Bill.Items p0.Complaint.Item).Count), .int .i64 ((ix p0.Bill.Items p0.Complaint.Item).Price), .int .i64 ((ix p0.Bill.Items p0.Complaint.Item).Amount)], ownE 3 1 encI u32.1 u32.2.1 u32.2.2 r31.1]) () ?_ ?_ ?_
              · exact (sub_cons (by kernel_rfl) rfl (sub_cons (by kernel_rfl) rfl (sub_cons (by kernel_rfl) rfl (sub_cons (by kernel_rfl) rfl (sub_cons (by kernel_rfl) rfl (sub_cons (by kernel_rfl) rfl (sub_cons (by kernel_rfl) rfl sub_nil)))))))
              · exact hsub [3, 2, 1, 0] (by kernel_rfl) rfl
              intro s526 u527
              refine cm_seq ?_
              refine cm_seq ?_
              refine cm_region ?_
              refine lm_val 115 (by kernel_rfl) (fun w1 c1 => (op_move (v := .int .i64 _) rfl)) ?_
              refine lm_val 116 (by kernel_rfl) (fun w1 c1 => (op_fieldL (m := 0) (k := 0) rfl (by kernel_rfl) rfl)) ?_
              refine lm_val 117 (by kernel_rfl) (fun w1 c1 => (op_fieldL (m := 3) (k := 3) rfl (by kernel_rfl) rfl)) ?_
              refine lm_val 118 (by kernel_rfl) (fun w1 c1 => (op_load rfl (by kernel_rfl) (c1.cell 0 (u := .slice _ _ _) rfl rfl))) ?_
              refine lm_val 119 (by kernel_rfl) (fun w1 c1 => (op_lenN rfl (by kernel_rfl) hz_p04.2.2)) ?_
              refine lm_val 120 (by kernel_rfl) (fun w1 c1 => (op_lss rfl rfl)) ?_
              refine lm_nil ?_
              refine xm_next ?_
              refine cm_cond (by kernel_rfl) rfl (fun h528 => ?_) (fun h528 => ?_)
              · skip
                refine cm_skip ?_
                refine xm_next ?_
                refine cm_join (σ := Bool) (ξ := Unit) (fun s575 u576 => [(1, .pointer (some ⟨b5, 0, none⟩)), (3, .pointer (some ⟨b13, 0, none⟩)), (6, .pointer (some ⟨b25, 0, none⟩)), (7, .int .i64 r26.1), (9, .slice u32.1 u32.2.1 u32.2.2), (11, .bool s575), (12, .int .i64 s526.2)]) (fun s575 u576 => [blkE b5 50 [.slice A_p01 n_p01 c_p01, .slice A_p02 n_p02 c_p02, .slice A_p03 n_p03 c_p03, .slice A_p04 n_p04 c_p04, .slice A_p05 n_p05 c_p05, .int .i64 p0.Account.Gap, .int .i64 p0.Bill.ID, .int .i64 p0.Bill.Household, .int .i64 p0.Bill.When.From, .int .i64 p0.Bill.When.To, .slice A_p06 n_p06 c_p06, .int .i64 p0.Bill.Total, .int .i64 p0.Complaint.Bill, .int .i64 p0.Complaint.Item, .int .i64 p0.Complaint.At, .int .i64 p0.Complaint.Kind, .int .i64 p0.Days], blkE b13 37 [.int .i64 r11.1.Credit, .int .i64 r11.1.Err], blkE b25 55 [.int .i64 ((ix p0.Bill.Items p0.Complaint.Item).Kind), .int .i64 ((ix p0.Bill.Items p0.Complaint.Item).Ref), .int .i64 ((ix p0.Bill.Items p0.Complaint.Item).Count), .int .i64 ((ix p0.Bill.Items p0.Complaint.Item).Price), .int .i64 ((ix p0.Bill.Items p0.Complaint.Item).Amount)], ownE 3 1 encI u32.1 u32.2.1 u32.2.2 r31.1]) ?_ ?_
                · skip
                  refine cm_block ?_
                  refine cm_seq ?_
                  refine cm_region ?_
                  refine lm_val 123 (by kernel_rfl) (fun w1 c1 => (op_fieldL (m := 0) (k := 0) rfl (by kernel_rfl) rfl)) ?_
                  refine lm_val 124 (by kernel_rfl) (fun w1 c1 => (op_fieldL (m := 3) (k := 3) rfl (by kernel_rfl) rfl)) ?_
                  refine lm_val 125 (by kernel_rfl) (fun w1 c1 => (op_load rfl (by kernel_rfl) (c1.cell 0 (u := .slice _ _ _) rfl rfl))) ?_
                  refine lm_val 126 (by kernel_rfl) (fun w1 c1 => (op_move (v := .int .i64 _) rfl)) ?_
                  refine lm_ck (fun h577 => ?_)
                  refine lm_val 127 (by kernel_rfl) (fun w1 c1 => (op_indexA 7 rfl rfl (by kernel_rfl) ((hr_p04.old c1).addr h577.1 h577.2) hz_p04.2.2 h577.1 h577.2)) ?_
                  refine lm_val 128 (by kernel_rfl) (fun w1 c1 => (op_loadR [.int .i64 ((ix p0.Account.Emptyings s526.2).ID), .int .i64 ((ix p0.Account.Emptyings s526.2).Container), .int .i64 ((ix p0.Account.Emptyings s526.2).Vehicle), .int .i64 ((ix p0.Account.Emptyings s526.2).At), .int .i64 ((ix p0.Account.Emptyings s526.2).Mass.Lo), .int .i64 ((ix p0.Account.Emptyings s526.2).Mass.Hi), .bool ((ix p0.Account.Emptyings s526.2).Void)] rfl (by kernel_rfl) ((hr_p04.old c1).row h577.1 h577.2))) ?_
                  refine lm_alloc 13 [.int .i64 0, .int .i64 0, .int .i64 0, .int .i64 0, .int .i64 0, .int .i64 0, .bool false] (v := .agg #[.int .i64 0, .int .i64 0, .int .i64 0, .int .i64 0, .int .i64 0, .int .i64 0, .bool false]) (by kernel_rfl) (by kernel_rfl) rfl ?_
                  intro b578
                  refine lm_storeA 0 [.int .i64 _, .int .i64 _, .int .i64 _, .int .i64 _, .int .i64 _, .int .i64 _, .bool _] [_, _, _, _, _, _, _] (H' := [blkE _ _ [_, _, _, _, _, _, _], _, _, _, _]) (by kernel_rfl) rfl rfl (by kernel_rfl) rfl rfl (by kernel_rfl) rfl rfl ?_
                  refine lm_nil ?_
                  refine xm_next ?_
                  refine cm_seq ?_
                  refine cm_seq ?_
                  refine cm_region ?_
                  refine lm_val 129 (by kernel_rfl) (fun w1 c1 => (op_fieldL (m := 0) (k := 0) rfl (by kernel_rfl) rfl)) ?_
                  refine lm_val 130 (by kernel_rfl) (fun w1 c1 => (op_load rfl (by kernel_rfl) (c1.cell 0 (u := .int .i64 _) rfl rfl))) ?_
                  refine lm_val 131 (by kernel_rfl) (fun w1 c1 => (op_fieldL (m := 1) (k := 1) rfl (by kernel_rfl) rfl)) ?_
                  refine lm_val 132 (by kernel_rfl) (fun w1 c1 => (op_load rfl (by kernel_rfl) (c1.cell 3 (u := .int .i64 _) rfl rfl))) ?_
                  refine lm_val 133 (by kernel_rfl) (fun w1 c1 => (op_neq rfl rfl)) ?_
                  refine lm_nil ?_
                  refine xm_next ?_
                  refine cm_cond (by kernel_rfl) rfl (fun h579 => ?_) (fun h579 => ?_)
                  · skip
                    refine cm_exit ?_
                    refine xm_thenE ?_
                    refine xm_here ?_
                    exact xm_lnext () (sub_cons (by kernel_rfl) rfl (sub_cons (by kernel_rfl) rfl (sub_cons (by kernel_rfl) rfl (sub_cons (by kernel_rfl) rfl (sub_cons (by kernel_rfl) rfl (sub_cons (by kernel_rfl) rfl (sub_cons (by kernel_rfl) rfl sub_nil))))))) (hsub [1, 2, 3, 4] (by kernel_rfl) rfl)
                  · skip
                    refine cm_skip ?_
                    refine xm_next ?_
                    refine cm_seq ?_
                    refine cm_region ?_
                    refine lm_val 14 (by kernel_rfl) (fun w1 c1 => (op_assign (v := .bool false) rfl)) ?_
                    refine lm_nil ?_
                    refine xm_next ?_
                    refine cm_join (σ := Bool) (ξ := Unit) (fun s597 u598 => [(1, .pointer (some ⟨b5, 0, none⟩)), (3, .pointer (some ⟨b13, 0, none⟩)), (6, .pointer (some ⟨b25, 0, none⟩)), (7, .int .i64 r26.1), (9, .slice u32.1 u32.2.1 u32.2.2), (11, .bool s526.1), (12, .int .i64 s526.2), (13, .pointer (some ⟨b578, 0, none⟩)), (14, .bool s597)]) (fun s597 u598 => [blkE b5 50 [.slice A_p01 n_p01 c_p01, .slice A_p02 n_p02 c_p02, .slice A_p03 n_p03 c_p03, .slice A_p04 n_p04 c_p04, .slice A_p05 n_p05 c_p05, .int .i64 p0.Account.Gap, .int .i64 p0.Bill.ID, .int .i64 p0.Bill.Household, .int .i64 p0.Bill.When.From, .int .i64 p0.Bill.When.To, .slice A_p06 n_p06 c_p06, .int .i64 p0.Bill.Total, .int .i64 p0.Complaint.Bill, .int .i64 p0.Complaint.Item, .int .i64 p0.Complaint.At, .int .i64 p0.Complaint.Kind, .int .i64 p0.Days], blkE b13 37 [.int .i64 r11.1.Credit, .int .i64 r11.1.Err], blkE b25 55 [.int .i64 ((ix p0.Bill.Items p0.Complaint.Item).Kind), .int .i64 ((ix p0.Bill.Items p0.Complaint.Item).Ref), .int .i64 ((ix p0.Bill.Items p0.Complaint.Item).Count), .int .i64 ((ix p0.Bill.Items p0.Complaint.Item).Price), .int .i64 ((ix p0.Bill.Items p0.Complaint.Item).Amount)], ownE 3 1 encI u32.1 u32.2.1 u32.2.2 r31.1, blkE b578 62 [.int .i64 ((ix p0.Account.Emptyings s526.2).ID), .int .i64 ((ix p0.Account.Emptyings s526.2).Container), .int .i64 ((ix p0.Account.Emptyings s526.2).Vehicle), .int .i64 ((ix p0.Account.Emptyings s526.2).At), .int .i64 ((ix p0.Account.Emptyings s526.2).Mass.Lo), .int .i64 ((ix p0.Account.Emptyings s526.2).Mass.Hi), .bool ((ix p0.Account.Emptyings s526.2).Void)]]) ?_ ?_
                    · skip
                      refine cm_seq ?_
                      refine cm_region ?_
                      refine lm_val 15 (by kernel_rfl) (fun w1 c1 => (op_assign (v := .int .i64 _) rfl)) ?_
                      refine lm_nil ?_
                      refine xm_next ?_
                      refine cm_block ?_
                      refine cm_loop (σ := Bool × Int) (ξ := Unit) (fun s610 u611 => [(1, .pointer (some ⟨b5, 0, none⟩)), (3, .pointer (some ⟨b13, 0, none⟩)), (6, .pointer (some ⟨b25, 0, none⟩)), (7, .int .i64 r26.1), (9, .slice u32.1 u32.2.1 u32.2.2), (11, .bool s526.1), (12, .int .i64 s526.2), (13, .pointer (some ⟨b578, 0, none⟩)), (14, .bool s610.1), (15, .int .i64 s610.2)]) (fun s610 u611 => [blkE b5 50 [.slice A_p01 n_p01 c_p01, .slice A_p02 n_p02 c_p02, .slice A_p03 n_p03 c_p03, .slice A_p04 n_p04 c_p04, .slice A_p05 n_p05 c_p05, .int .i64 p0.Account.Gap, .int .i64 p0.Bill.ID, .int .i64 p0.Bill.Household, .int .i64 p0.Bill.When.From, .int .i64 p0.Bill.When.To, .slice A_p06 n_p06 c_p06, .int .i64 p0.Bill.Total, .int .i64 p0.Complaint.Bill, .int .i64 p0.Complaint.Item, .int .i64 p0.Complaint.At, .int .i64 p0.Complaint.Kind, .int .i64 p0.Days], blkE b13 37 [.int .i64 r11.1.Credit, .int .i64 r11.1.Err], blkE b25 55 [.int .i64 ((ix p0.Bill.Items p0.Complaint.Item).Kind), .int .i64 ((ix p0.Bill.Items p0.Complaint.Item).Ref), .int .i64 ((ix p0.Bill.Items p0.Complaint.Item).Count), .int .i64 ((ix p0.Bill.Items p0.Complaint.Item).Price), .int .i64 ((ix p0.Bill.Items p0.Complaint.Item).Amount)], ownE 3 1 encI u32.1 u32.2.1 u32.2.2 r31.1, blkE b578 62 [.int .i64 ((ix p0.Account.Emptyings s526.2).ID), .int .i64 ((ix p0.Account.Emptyings s526.2).Container), .int .i64 ((ix p0.Account.Emptyings s526.2).Vehicle), .int .i64 ((ix p0.Account.Emptyings s526.2).At), .int .i64 ((ix p0.Account.Emptyings s526.2).Mass.Lo), .int .i64 ((ix p0.Account.Emptyings s526.2).Mass.Hi), .bool ((ix p0.Account.Emptyings s526.2).Void)]]) () ?_ ?_ ?_
                      · exact (sub_cons (by kernel_rfl) rfl (sub_cons (by kernel_rfl) rfl (sub_cons (by kernel_rfl) rfl (sub_cons (by kernel_rfl) rfl (sub_cons (by kernel_rfl) rfl (sub_cons (by kernel_rfl) rfl (sub_cons (by kernel_rfl) rfl (sub_cons (by kernel_rfl) rfl (sub_cons (by kernel_rfl) rfl (sub_cons (by kernel_rfl) rfl sub_nil))))))))))
                      · exact hsub [1, 2, 3, 4, 0] (by kernel_rfl) rfl
                      intro s610 u611
                      refine cm_seq ?_
                      refine cm_seq ?_
                      refine cm_region ?_
                      refine lm_val 134 (by kernel_rfl) (fun w1 c1 => (op_move (v := .int .i64 _) rfl)) ?_
                      refine lm_val 135 (by kernel_rfl) (fun w1 c1 => (op_move (v := .slice _ _ _) rfl)) ?_
                      refine lm_val 136 (by kernel_rfl) (fun w1 c1 => (op_lenN rfl (by kernel_rfl) (c1.ownZ 3 rfl).2.2)) ?_
                      refine lm_val 137 (by kernel_rfl) (fun w1 c1 => (op_lss rfl rfl)) ?_
                      refine lm_nil ?_
                      refine xm_next ?_
                      refine cm_cond (by kernel_rfl) rfl (fun h612 => ?_) (fun h612 => ?_)
                      · skip
                        refine cm_skip ?_
                        refine xm_next ?_
                        refine cm_seq ?_
                        refine cm_block ?_
                        refine cm_ck (fun h613 => ?_)
                        refine cm_of_then ?_
                        refine cm_cutE [(14, .bool (s610.1 || (decide ((ix r31.1 s610.2) = s526.2))))] ?_ ?_
                        · skip
                          refine wq_bool 140 (by kernel_rfl) (fun w1 c1 => (op_move (v := .bool _) rfl)) (fun h614 => ?_) (fun h614 => ?_)
                          · skip
                            refine wq_val 141 (by kernel_rfl) (fun w1 c1 => (op_move (v := .bool true) rfl)) ?_
                            refine wq_skip 142 (by kernel_rfl) ?_
                            refine wq_skip 143 (by kernel_rfl) ?_
                            refine wq_skip 144 (by kernel_rfl) ?_
                            refine wq_skip 145 (by kernel_rfl) ?_
                            refine wq_skip 146 (by kernel_rfl) ?_
                            refine wq_skip 147 (by kernel_rfl) ?_
                            refine wq_val 148 (by kernel_rfl) (fun w1 c1 => (op_pick_t (v := .bool true) rfl rfl)) ?_
                            refine wq_val 14 (by kernel_rfl) (fun w1 c1 => (op_assign (v := .bool true) rfl)) ?_
                            exact leaf_q (sub_out 10 _ rfl (by kernel_rfl) ⟨(congrArg Value.bool (by rw [h614] <;> rfl)), trivial⟩)
                          · skip
                            refine wq_val 141 (by kernel_rfl) (fun w1 c1 => (op_move (v := .bool false) rfl)) ?_
                            refine wq_val 142 (by kernel_rfl) (fun w1 c1 => (op_move (v := .slice _ _ _) rfl)) ?_
                            refine wq_val 143 (by kernel_rfl) (fun w1 c1 => (op_move (v := .int .i64 _) rfl)) ?_
                            refine wq_val 144 (by kernel_rfl) (fun w1 c1 => (op_indexA 1 rfl rfl (by kernel_rfl) ((c1.own 3 rfl encI_len).addr (h613 (by rw [h614] <;> rfl)).1 (h613 (by rw [h614] <;> rfl)).2) (c1.ownZ 3 rfl).2.2 (h613 (by rw [h614] <;> rfl)).1 (h613 (by rw [h614] <;> rfl)).2)) ?_
                            refine wq_val 145 (by kernel_rfl) (fun w1 c1 => (op_load (v := .int .i64 (ix r31.1 s610.2)) rfl (by kernel_rfl) ((c1.own 3 rfl encI_len).cell0 (h613 (by rw [h614] <;> rfl)).1 (h613 (by rw [h614] <;> rfl)).2 rfl))) ?_
                            refine wq_val 146 (by kernel_rfl) (fun w1 c1 => (op_move (v := .int .i64 _) rfl)) ?_
                            refine wq_val 147 (by kernel_rfl) (fun w1 c1 => (op_eql rfl rfl)) ?_
                            refine wq_val 148 (by kernel_rfl) (fun w1 c1 => (op_pick_f (v := .bool _) rfl rfl)) ?_
                            refine wq_val 14 (by kernel_rfl) (fun w1 c1 => (op_assign (v := .bool _) rfl)) ?_
                            exact leaf_q (sub_out 10 _ rfl (by kernel_rfl) ⟨(congrArg Value.bool (by rw [h614] <;> rfl)), trivial⟩)
                        refine xm_of_then ?_
                        refine xm_inN ?_
                        refine xm_next ?_
                        refine cm_region ?_
                        refine lm_val 138 (by kernel_rfl) (fun w1 c1 => (op_move (v := .int .i64 _) rfl)) ?_
                        refine lm_ck (fun h615 => ?_)
                        refine lm_val 139 (by kernel_rfl) (fun w1 c1 => (op_add rfl rfl h615)) ?_
                        refine lm_val 15 (by kernel_rfl) (fun w1 c1 => (op_assign (v := .int .i64 _) rfl)) ?_
                        refine lm_nil ?_
                        exact xm_lnext () (sub_cons (by kernel_rfl) rfl (sub_cons (by kernel_rfl) rfl (sub_cons (by kernel_rfl) rfl (sub_cons (by kernel_rfl) rfl (sub_cons (by kernel_rfl) rfl (sub_cons (by kernel_rfl) rfl (sub_cons (by kernel_rfl) rfl (sub_cons (by kernel_rfl) rfl (sub_cons (by kernel_rfl) rfl (sub_cons (by kernel_rfl) rfl sub_nil)))))))))) (hsub [0, 1, 2, 3, 4] (by kernel_rfl) rfl)
                      · skip
                        refine cm_exit ?_
                        refine xm_thenE ?_
                        refine xm_lexit ?_
                        refine xm_here ?_
                        exact xm_lnext () (sub_cons (by kernel_rfl) rfl (sub_cons (by kernel_rfl) rfl (sub_cons (by kernel_rfl) rfl (sub_cons (by kernel_rfl) rfl (sub_cons (by kernel_rfl) rfl (sub_cons (by kernel_rfl) rfl (sub_cons (by kernel_rfl) rfl (sub_cons (by kernel_rfl) rfl (sub_cons (by kernel_rfl) rfl sub_nil))))))))) (hsub [0, 1, 2, 3, 4] (by kernel_rfl) rfl)
                    intro s597 u598
                    refine cm_seq ?_
                    refine cm_region ?_
                    refine lm_val 149 (by kernel_rfl) (fun w1 c1 => (op_fieldL (m := 12) (k := 12) rfl (by kernel_rfl) rfl)) ?_
                    refine lm_val 150 (by kernel_rfl) (fun w1 c1 => (op_fieldL (m := 3) (k := 15) rfl (by kernel_rfl) rfl)) ?_
                    refine lm_val 151 (by kernel_rfl) (fun w1 c1 => (op_load rfl (by kernel_rfl) (c1.cell 0 (u := .int .i64 _) rfl rfl))) ?_
                    refine lm_nil ?_
                    refine xm_next ?_
                    refine cm_block ?_
                    refine cm_seq ?_
                    refine cm_region ?_
                    refine lm_val 153 (by kernel_rfl) (fun w1 c1 => (op_eql rfl rfl)) ?_
                    refine lm_val 152 (by kernel_rfl) (fun w1 c1 => (op_assign (v := .bool _) rfl)) ?_
                    refine lm_nil ?_
                    refine xm_next ?_
                    refine cm_cond (by kernel_rfl) rfl (fun h616 => ?_) (fun h616 => ?_)
                    · skip
                      refine cm_of_then ?_
                      refine cm_cutE [(11, .bool (((ix p0.Account.Emptyings s526.2).Void) && (decide (r11.1.Credit = r26.1))))] ?_ ?_
                      · skip
                        refine wq_val 154 (by kernel_rfl) (fun w1 c1 => (op_fieldL (m := 6) (k := 6) rfl (by kernel_rfl) rfl)) ?_
                        refine wq_bool 155 (by kernel_rfl) (fun w1 c1 => (op_load rfl (by kernel_rfl) (c1.cell 4 (u := .bool _) rfl rfl))) (fun h617 => ?_) (fun h617 => ?_)
                        · skip
                          refine wq_val 156 (by kernel_rfl) (fun w1 c1 => (op_move (v := .bool true) rfl)) ?_
                          refine wq_val 157 (by kernel_rfl) (fun w1 c1 => (op_fieldL (m := 0) (k := 0) rfl (by kernel_rfl) rfl)) ?_
                          refine wq_val 158 (by kernel_rfl) (fun w1 c1 => (op_load rfl (by kernel_rfl) (c1.cell 1 (u := .int .i64 _) rfl rfl))) ?_
                          refine wq_val 159 (by kernel_rfl) (fun w1 c1 => (op_move (v := .int .i64 _) rfl)) ?_
                          refine wq_val 160 (by kernel_rfl) (fun w1 c1 => (op_eql rfl rfl)) ?_
                          refine wq_val 161 (by kernel_rfl) (fun w1 c1 => (op_pick_t (v := .bool _) rfl rfl)) ?_
                          refine wq_val 11 (by kernel_rfl) (fun w1 c1 => (op_assign (v := .bool _) rfl)) ?_
                          exact leaf_q (sub_out 9 _ rfl (by kernel_rfl) ⟨(congrArg Value.bool (by rw [h617] <;> rfl)), trivial⟩)
                        · skip
                          refine wq_val 156 (by kernel_rfl) (fun w1 c1 => (op_move (v := .bool false) rfl)) ?_
                          refine wq_skip 157 (by kernel_rfl) ?_
                          refine wq_skip 158 (by kernel_rfl) ?_
                          refine wq_skip 159 (by kernel_rfl) ?_
                          refine wq_skip 160 (by kernel_rfl) ?_
                          refine wq_val 161 (by kernel_rfl) (fun w1 c1 => (op_pick_f (v := .bool false) rfl rfl)) ?_
                          refine wq_val 11 (by kernel_rfl) (fun w1 c1 => (op_assign (v := .bool false) rfl)) ?_
                          exact leaf_q (sub_out 9 _ rfl (by kernel_rfl) ⟨(congrArg Value.bool (by rw [h617] <;> rfl)), trivial⟩)
                      refine xm_of_then ?_
                      refine xm_inN ?_
                      refine xm_inN ?_
                      exact xm_lnext () (sub_cons (by kernel_rfl) rfl (sub_cons (by kernel_rfl) rfl (sub_cons (by kernel_rfl) rfl (sub_cons (by kernel_rfl) rfl (sub_cons (by kernel_rfl) rfl (sub_cons (by kernel_rfl) rfl (sub_cons (by kernel_rfl) rfl sub_nil))))))) (hsub [0, 1, 2, 3] (by kernel_rfl) rfl)
                    · skip
                      refine cm_seq ?_
                      refine cm_region ?_
                      refine lm_val 163 (by kernel_rfl) (fun w1 c1 => (op_eql rfl rfl)) ?_
                      refine lm_val 162 (by kernel_rfl) (fun w1 c1 => (op_assign (v := .bool _) rfl)) ?_
                      refine lm_nil ?_
                      refine xm_next ?_
                      refine cm_cond (by kernel_rfl) rfl (fun h618 => ?_) (fun h618 => ?_)
                      · skip
                        refine cm_of_then ?_
                        refine cm_cutE [(11, .bool (((!((ix p0.Account.Emptyings s526.2).Void)) && (!s597)) && (decide (r11.1.Credit = r26.1))))] ?_ ?_
                        · skip
                          refine wq_val 164 (by kernel_rfl) (fun w1 c1 => (op_fieldL (m := 6) (k := 6) rfl (by kernel_rfl) rfl)) ?_
                          refine wq_bool 165 (by kernel_rfl) (fun w1 c1 => (op_load rfl (by kernel_rfl) (c1.cell 4 (u := .bool _) rfl rfl))) (fun h619 => ?_) (fun h619 => ?_)
                          · skip
                            refine wq_val 166 (by kernel_rfl) (fun w1 c1 => (op_nott rfl)) ?_
                            refine wq_val 167 (by kernel_rfl) (fun w1 c1 => (op_move (v := .bool false) rfl)) ?_
                            refine wq_skip 168 (by kernel_rfl) ?_
                            refine wq_skip 169 (by kernel_rfl) ?_
                            refine wq_val 170 (by kernel_rfl) (fun w1 c1 => (op_pick_f (v := .bool false) rfl rfl)) ?_
                            refine wq_val 171 (by kernel_rfl) (fun w1 c1 => (op_move (v := .bool false) rfl)) ?_
                            refine wq_skip 172 (by kernel_rfl) ?_
                            refine wq_skip 173 (by kernel_rfl) ?_
                            refine wq_skip 174 (by kernel_rfl) ?_
                            refine wq_skip 175 (by kernel_rfl) ?_
                            refine wq_val 176 (by kernel_rfl) (fun w1 c1 => (op_pick_f (v := .bool false) rfl rfl)) ?_
                            refine wq_val 11 (by kernel_rfl) (fun w1 c1 => (op_assign (v := .bool false) rfl)) ?_
                            exact leaf_q (sub_out 14 _ rfl (by kernel_rfl) ⟨(congrArg Value.bool (by rw [h619] <;> rfl)), trivial⟩)
                          · skip
                            refine wq_val 166 (by kernel_rfl) (fun w1 c1 => (op_notf rfl)) ?_
                            refine wq_val 167 (by kernel_rfl) (fun w1 c1 => (op_move (v := .bool true) rfl)) ?_
                            refine wq_bool 168 (by kernel_rfl) (fun w1 c1 => (op_move (v := .bool _) rfl)) (fun h620 => ?_) (fun h620 => ?_)
                            · skip
                              refine wq_val 169 (by kernel_rfl) (fun w1 c1 => (op_nott rfl)) ?_
                              refine wq_val 170 (by kernel_rfl) (fun w1 c1 => (op_pick_t (v := .bool false) rfl rfl)) ?_
                              refine wq_val 171 (by kernel_rfl) (fun w1 c1 => (op_move (v := .bool false) rfl)) ?_
                              refine wq_skip 172 (by kernel_rfl) ?_
                              refine wq_skip 173 (by kernel_rfl) ?_
                              refine wq_skip 174 (by kernel_rfl) ?_
                              refine wq_skip 175 (by kernel_rfl) ?_
                              refine wq_val 176 (by kernel_rfl) (fun w1 c1 => (op_pick_f (v := .bool false) rfl rfl)) ?_
                              refine wq_val 11 (by kernel_rfl) (fun w1 c1 => (op_assign (v := .bool false) rfl)) ?_
                              exact leaf_q (sub_out 14 _ rfl (by kernel_rfl) ⟨(congrArg Value.bool (by rw [h619, h620] <;> rfl)), trivial⟩)
                            · skip
                              refine wq_val 169 (by kernel_rfl) (fun w1 c1 => (op_notf rfl)) ?_
                              refine wq_val 170 (by kernel_rfl) (fun w1 c1 => (op_pick_t (v := .bool true) rfl rfl)) ?_
                              refine wq_val 171 (by kernel_rfl) (fun w1 c1 => (op_move (v := .bool true) rfl)) ?_
                              refine wq_val 172 (by kernel_rfl) (fun w1 c1 => (op_fieldL (m := 0) (k := 0) rfl (by kernel_rfl) rfl)) ?_
                              refine wq_val 173 (by kernel_rfl) (fun w1 c1 => (op_load rfl (by kernel_rfl) (c1.cell 1 (u := .int .i64 _) rfl rfl))) ?_
                              refine wq_val 174 (by kernel_rfl) (fun w1 c1 => (op_move (v := .int .i64 _) rfl)) ?_
                              refine wq_val 175 (by kernel_rfl) (fun w1 c1 => (op_eql rfl rfl)) ?_
                              refine wq_val 176 (by kernel_rfl) (fun w1 c1 => (op_pick_t (v := .bool _) rfl rfl)) ?_
                              refine wq_val 11 (by kernel_rfl) (fun w1 c1 => (op_assign (v := .bool _) rfl)) ?_
                              exact leaf_q (sub_out 14 _ rfl (by kernel_rfl) ⟨(congrArg Value.bool (by rw [h619, h620] <;> rfl)), trivial⟩)
                        refine xm_of_then ?_
                        refine xm_inN ?_
                        refine xm_inN ?_
                        exact xm_lnext () (sub_cons (by kernel_rfl) rfl (sub_cons (by kernel_rfl) rfl (sub_cons (by kernel_rfl) rfl (sub_cons (by kernel_rfl) rfl (sub_cons (by kernel_rfl) rfl (sub_cons (by kernel_rfl) rfl (sub_cons (by kernel_rfl) rfl sub_nil))))))) (hsub [0, 1, 2, 3] (by kernel_rfl) rfl)
                      · skip
                        refine cm_seq ?_
                        refine cm_region ?_
                        refine lm_val 178 (by kernel_rfl) (fun w1 c1 => (op_eql rfl rfl)) ?_
                        refine lm_val 177 (by kernel_rfl) (fun w1 c1 => (op_assign (v := .bool _) rfl)) ?_
                        refine lm_nil ?_
                        refine xm_next ?_
                        refine cm_cond (by kernel_rfl) rfl (fun h621 => ?_) (fun h621 => ?_)
                        · skip
                          refine cm_of_then ?_
                          refine cm_cutE [(11, .bool ((decide ((ix p0.Bill.Items p0.Complaint.Item).Kind = 3)) && (decide (r11.1.Credit ≤ (ix p0.Bill.Items p0.Complaint.Item).Amount))))] ?_ ?_
                          · skip
                            refine wq_val 179 (by kernel_rfl) (fun w1 c1 => (op_fieldL (m := 0) (k := 0) rfl (by kernel_rfl) rfl)) ?_
                            refine wq_val 180 (by kernel_rfl) (fun w1 c1 => (op_load rfl (by kernel_rfl) (c1.cell 2 (u := .int .i64 _) rfl rfl))) ?_
                            refine wq_dec 181 (by kernel_rfl) (fun w1 c1 => (op_eql rfl rfl)) (fun h622 => ?_) (fun h622 => ?_)
                            · skip
                              refine wq_val 182 (by kernel_rfl) (fun w1 c1 => (op_move (v := .bool true) rfl)) ?_
                              refine wq_val 183 (by kernel_rfl) (fun w1 c1 => (op_fieldL (m := 0) (k := 0) rfl (by kernel_rfl) rfl)) ?_
                              refine wq_val 184 (by kernel_rfl) (fun w1 c1 => (op_load rfl (by kernel_rfl) (c1.cell 1 (u := .int .i64 _) rfl rfl))) ?_
                              refine wq_val 185 (by kernel_rfl) (fun w1 c1 => (op_fieldL (m := 4) (k := 4) rfl (by kernel_rfl) rfl)) ?_
                              refine wq_val 186 (by kernel_rfl) (fun w1 c1 => (op_load rfl (by kernel_rfl) (c1.cell 2 (u := .int .i64 _) rfl rfl))) ?_
                              refine wq_val 187 (by kernel_rfl) (fun w1 c1 => (op_leq rfl rfl)) ?_
                              refine wq_val 188 (by kernel_rfl) (fun w1 c1 => (op_pick_t (v := .bool _) rfl rfl)) ?_
                              refine wq_val 11 (by kernel_rfl) (fun w1 c1 => (op_assign (v := .bool _) rfl)) ?_
                              exact leaf_q (sub_out 11 _ rfl (by kernel_rfl) ⟨(congrArg Value.bool (by rw [decide_eq_true h622] <;> rfl)), trivial⟩)
                            · skip
                              refine wq_val 182 (by kernel_rfl) (fun w1 c1 => (op_move (v := .bool false) rfl)) ?_
                              refine wq_skip 183 (by kernel_rfl) ?_
                              refine wq_skip 184 (by kernel_rfl) ?_
                              refine wq_skip 185 (by kernel_rfl) ?_
                              refine wq_skip 186 (by kernel_rfl) ?_
                              refine wq_skip 187 (by kernel_rfl) ?_
                              refine wq_val 188 (by kernel_rfl) (fun w1 c1 => (op_pick_f (v := .bool false) rfl rfl)) ?_
                              refine wq_val 11 (by kernel_rfl) (fun w1 c1 => (op_assign (v := .bool false) rfl)) ?_
                              exact leaf_q (sub_out 11 _ rfl (by kernel_rfl) ⟨(congrArg Value.bool (by rw [decide_eq_false h622] <;> rfl)), trivial⟩)
                          refine xm_of_then ?_
                          refine xm_inN ?_
                          refine xm_inN ?_
                          exact xm_lnext () (sub_cons (by kernel_rfl) rfl (sub_cons (by kernel_rfl) rfl (sub_cons (by kernel_rfl) rfl (sub_cons (by kernel_rfl) rfl (sub_cons (by kernel_rfl) rfl (sub_cons (by kernel_rfl) rfl (sub_cons (by kernel_rfl) rfl sub_nil))))))) (hsub [0, 1, 2, 3] (by kernel_rfl) rfl)
                        · skip
                          refine cm_skip ?_
                          refine xm_inN ?_
                          refine xm_inN ?_
                          exact xm_lnext () (sub_cons (by kernel_rfl) rfl (sub_cons (by kernel_rfl) rfl (sub_cons (by kernel_rfl) rfl (sub_cons (by kernel_rfl) rfl (sub_cons (by kernel_rfl) rfl (sub_cons (by kernel_rfl) rfl (sub_cons (by kernel_rfl) rfl sub_nil))))))) (hsub [0, 1, 2, 3] (by kernel_rfl) rfl)
                intro s575 u576
                refine cm_region ?_
                refine lm_val 121 (by kernel_rfl) (fun w1 c1 => (op_move (v := .int .i64 _) rfl)) ?_
                refine lm_ck (fun h623 => ?_)
                refine lm_val 122 (by kernel_rfl) (fun w1 c1 => (op_add rfl rfl h623)) ?_
                refine lm_val 12 (by kernel_rfl) (fun w1 c1 => (op_assign (v := .int .i64 _) rfl)) ?_
                refine lm_nil ?_
                exact xm_lnext () (sub_cons (by kernel_rfl) rfl (sub_cons (by kernel_rfl) rfl (sub_cons (by kernel_rfl) rfl (sub_cons (by kernel_rfl) rfl (sub_cons (by kernel_rfl) rfl (sub_cons (by kernel_rfl) rfl (sub_cons (by kernel_rfl) rfl sub_nil))))))) (hsub [0, 1, 2, 3] (by kernel_rfl) rfl)
              · skip
                refine cm_exit ?_
                refine xm_thenE ?_
                refine xm_lexit ?_
                refine xm_here ?_
                exact xm_lnext () (sub_cons (by kernel_rfl) rfl (sub_cons (by kernel_rfl) rfl (sub_cons (by kernel_rfl) rfl (sub_cons (by kernel_rfl) rfl (sub_cons (by kernel_rfl) rfl sub_nil))))) (hsub [0, 1, 2] (by kernel_rfl) rfl)
            intro s328 u329
            refine cm_seq ?_
            refine cm_seq ?_
            refine cm_region ?_
            refine lm_val 189 (by kernel_rfl) (fun w1 c1 => (op_move (v := .bool _) rfl)) ?_
            refine lm_val 190 (by kernel_rfl) (fun w1 c1 => (op_not rfl)) ?_
            refine lm_nil ?_
            refine xm_next ?_
            refine cm_condB (by kernel_rfl) rfl (fun h624 => ?_) (fun h624 => ?_)
            · skip
              refine cm_seq ?_
              refine cm_region ?_
              refine lm_val 2 (by kernel_rfl) (fun w1 c1 => (op_assign (v := .bool false) rfl)) ?_
              refine lm_nil ?_
              refine xm_next ?_
              refine cm_ret ?_
              refine xm_thenR ?_
              exact xm_retT rfl (by kernel_rfl) (show _ = Value.bool false from rfl) fun w1 c1 => ⟨(), rfl, hsub [] (by kernel_rfl) rfl w1 c1⟩
            · skip
              refine cm_skip ?_
              refine xm_next ?_
              refine cm_seq ?_
              refine cm_region ?_
              refine lm_val 192 (by kernel_rfl) (fun w1 c1 => (op_fieldL (m := 6) (k := 6) rfl (by kernel_rfl) rfl)) ?_
              refine lm_val 193 (by kernel_rfl) (fun w1 c1 => (op_loadR [.int .i64 _, .int .i64 _, .int .i64 _, .int .i64 _, .slice _ _ _, .int .i64 _] rfl (by kernel_rfl) (c1.cells 0 rfl rfl))) ?_
              refine lm_val 194 (by kernel_rfl) (fun w1 c1 => (op_fieldL (m := 12) (k := 12) rfl (by kernel_rfl) rfl)) ?_
              refine lm_val 195 (by kernel_rfl) (fun w1 c1 => (op_loadR [.int .i64 _, .int .i64 _, .int .i64 _, .int .i64 _] rfl (by kernel_rfl) (c1.cells 0 rfl rfl))) ?_
              refine lm_val 196 (by kernel_rfl) (fun w1 c1 => (op_loadR [.int .i64 _, .int .i64 _] rfl (by kernel_rfl) (c1.cells 1 rfl rfl))) ?_
              refine lm_call 197 (V := (fun (r : ApiBill × Int) (u : (Option Addr) × Nat × Nat) => .tuple #[.agg #[.int .i64 r.1.ID, .int .i64 r.1.Household, .int .i64 r.1.When.From, .int .i64 r.1.When.To, .slice u.1 u.2.1 u.2.2, .int .i64 r.1.Total], .int .i64 r.2])) (HR := (fun (r : ApiBill × Int) (u : (Option Addr) × Nat × Nat) => [ownE 55 5 encApiItem u.1 u.2.1 u.2.2 r.1.Items])) (by kernel_rfl) (fun w1 => op_call (by kernel_rfl)) (fun r1 hr1 w1 c1 => m_complaint_Apply_ok N w1 p0.Bill p0.Complaint r11.1 A_p06 n_p06 c_p06 (hr_p06.old c1) hz_p06 r1 hr1) ?_
              intro r625 u626
              refine lm_val 191 (by kernel_rfl) (fun w1 c1 => (op_move (v := .tuple _) rfl)) ?_
              refine lm_val 198 (by kernel_rfl) (fun w1 c1 => (op_extract (v := .agg _) rfl rfl)) ?_
              refine lm_val 199 (by kernel_rfl) (fun w1 c1 => (op_extract (v := .int .i64 _) rfl rfl)) ?_
              refine lm_alloc 16 [.int .i64 0, .int .i64 0, .int .i64 0, .int .i64 0, .slice none 0 0, .int .i64 0] (v := .agg #[.int .i64 0, .int .i64 0, .int .i64 0, .int .i64 0, .slice none 0 0, .int .i64 0]) (by kernel_rfl) (by kernel_rfl) rfl ?_
              intro b627
              refine lm_storeA 0 [.int .i64 _, .int .i64 _, .int .i64 _, .int .i64 _, .slice _ _ _, .int .i64 _] [_, _, _, _, _, _] (H' := [blkE _ _ [_, _, _, _, _, _], _, _, _, _]) (by kernel_rfl) rfl rfl (by kernel_rfl) rfl rfl (by kernel_rfl) rfl rfl ?_
              refine lm_val 17 (by kernel_rfl) (fun w1 c1 => (op_assign (v := .int .i64 _) rfl)) ?_
              refine lm_nil ?_
              refine xm_next ?_
              refine cm_seq ?_
              refine cm_seq ?_
              refine cm_region ?_
              refine lm_val 200 (by kernel_rfl) (fun w1 c1 => (op_move (v := .int .i64 _) rfl)) ?_
              refine lm_val 201 (by kernel_rfl) (fun w1 c1 => (op_neq rfl rfl)) ?_
              refine lm_nil ?_
              refine xm_next ?_
              refine cm_cond (by kernel_rfl) rfl (fun h628 => ?_) (fun h628 => ?_)
              · skip
                refine cm_seq ?_
                refine cm_callIf fun r629 h630 => ?_
                refine cm_cutE [(2, .bool (((((decide (1000000000000 < r11.1.Credit)) || (decide (512 ≤ (List.length p0.Bill.Items : Int)))) || (decide (p0.Bill.Total < -1000000000000))) || (decide (1000000000000 < p0.Bill.Total))) && r629))] ?_ ?_
                · skip
                  refine wq_val 202 (by kernel_rfl) (fun w1 c1 => (op_fieldL (m := 0) (k := 0) rfl (by kernel_rfl) rfl)) ?_
                  refine wq_val 203 (by kernel_rfl) (fun w1 c1 => (op_load rfl (by kernel_rfl) (c1.cell 3 (u := .int .i64 _) rfl rfl))) ?_
                  refine wq_dec 204 (by kernel_rfl) (fun w1 c1 => (op_gtr rfl rfl)) (fun h631 => ?_) (fun h631 => ?_)
                  · skip
                    refine wq_val 205 (by kernel_rfl) (fun w1 c1 => (op_move (v := .bool true) rfl)) ?_
                    refine wq_skip 206 (by kernel_rfl) ?_
                    refine wq_skip 207 (by kernel_rfl) ?_
                    refine wq_skip 208 (by kernel_rfl) ?_
                    refine wq_skip 209 (by kernel_rfl) ?_
                    refine wq_skip 210 (by kernel_rfl) ?_
                    refine wq_val 211 (by kernel_rfl) (fun w1 c1 => (op_pick_t (v := .bool true) rfl rfl)) ?_
                    refine wq_val 212 (by kernel_rfl) (fun w1 c1 => (op_move (v := .bool true) rfl)) ?_
                    refine wq_skip 213 (by kernel_rfl) ?_
                    refine wq_skip 214 (by kernel_rfl) ?_
                    refine wq_skip 215 (by kernel_rfl) ?_
                    refine wq_skip 216 (by kernel_rfl) ?_
                    refine wq_val 217 (by kernel_rfl) (fun w1 c1 => (op_pick_t (v := .bool true) rfl rfl)) ?_
                    refine wq_val 218 (by kernel_rfl) (fun w1 c1 => (op_move (v := .bool true) rfl)) ?_
                    refine wq_skip 219 (by kernel_rfl) ?_
                    refine wq_skip 220 (by kernel_rfl) ?_
                    refine wq_skip 221 (by kernel_rfl) ?_
                    refine wq_skip 222 (by kernel_rfl) ?_
                    refine wq_val 223 (by kernel_rfl) (fun w1 c1 => (op_pick_t (v := .bool true) rfl rfl)) ?_
                    refine wq_val 224 (by kernel_rfl) (fun w1 c1 => (op_move (v := .bool true) rfl)) ?_
                    refine wq_call 225 (by kernel_rfl) (fun w1 c1 => op_call (by kernel_rfl)) (fun w1 c1 => (m_recyclinglaw57_awake_ok N w1   r629 (h630 (by rw [decide_eq_true h631] <;> rfl))).mono (fun _ _ ⟨_, hx, hu⟩ => ⟨hx, c1.call hu⟩)) ?_
                    refine wq_val 226 (by kernel_rfl) (fun w1 c1 => (op_pick_t (v := .bool _) rfl rfl)) ?_
                    refine wq_val 2 (by kernel_rfl) (fun w1 c1 => (op_assign (v := .bool _) rfl)) ?_
                    exact leaf_q (sub_out 26 _ rfl (by kernel_rfl) ⟨(congrArg Value.bool (by rw [decide_eq_true h631] <;> rfl)), trivial⟩)
                  · skip
                    refine wq_val 205 (by kernel_rfl) (fun w1 c1 => (op_move (v := .bool false) rfl)) ?_
                    refine wq_val 206 (by kernel_rfl) (fun w1 c1 => (op_fieldL (m := 6) (k := 6) rfl (by kernel_rfl) rfl)) ?_
                    refine wq_val 207 (by kernel_rfl) (fun w1 c1 => (op_fieldL (m := 4) (k := 10) rfl (by kernel_rfl) rfl)) ?_
                    refine wq_val 208 (by kernel_rfl) (fun w1 c1 => (op_load rfl (by kernel_rfl) (c1.cell 2 (u := .slice _ _ _) rfl rfl))) ?_
                    refine wq_val 209 (by kernel_rfl) (fun w1 c1 => (op_lenN rfl (by kernel_rfl) hz_p06.2.2)) ?_
                    refine wq_dec 210 (by kernel_rfl) (fun w1 c1 => (op_geq rfl rfl)) (fun h632 => ?_) (fun h632 => ?_)
                    · skip
                      refine wq_val 211 (by kernel_rfl) (fun w1 c1 => (op_pick_f (v := .bool true) rfl rfl)) ?_
                      refine wq_val 212 (by kernel_rfl) (fun w1 c1 => (op_move (v := .bool true) rfl)) ?_
                      refine wq_skip 213 (by kernel_rfl) ?_
                      refine wq_skip 214 (by kernel_rfl) ?_
                      refine wq_skip 215 (by kernel_rfl) ?_
                      refine wq_skip 216 (by kernel_rfl) ?_
                      refine wq_val 217 (by kernel_rfl) (fun w1 c1 => (op_pick_t (v := .bool true) rfl rfl)) ?_
                      refine wq_val 218 (by kernel_rfl) (fun w1 c1 => (op_move (v := .bool true) rfl)) ?_
                      refine wq_skip 219 (by kernel_rfl) ?_
                      refine wq_skip 220 (by kernel_rfl) ?_
                      refine wq_skip 221 (by kernel_rfl) ?_
                      refine wq_skip 222 (by kernel_rfl) ?_
                      refine wq_val 223 (by kernel_rfl) (fun w1 c1 => (op_pick_t (v := .bool true) rfl rfl)) ?_
                      refine wq_val 224 (by kernel_rfl) (fun w1 c1 => (op_move (v := .bool true) rfl)) ?_
                      refine wq_call 225 (by kernel_rfl) (fun w1 c1 => op_call (by kernel_rfl)) (fun w1 c1 => (m_recyclinglaw57_awake_ok N w1   r629 (h630 (by rw [decide_eq_false h631, decide_eq_true h632] <;> rfl))).mono (fun _ _ ⟨_, hx, hu⟩ => ⟨hx, c1.call hu⟩)) ?_
                      refine wq_val 226 (by kernel_rfl) (fun w1 c1 => (op_pick_t (v := .bool _) rfl rfl)) ?_
                      refine wq_val 2 (by kernel_rfl) (fun w1 c1 => (op_assign (v := .bool _) rfl)) ?_
                      exact leaf_q (sub_out 26 _ rfl (by kernel_rfl) ⟨(congrArg Value.bool (by rw [decide_eq_false h631, decide_eq_true h632] <;> rfl)), trivial⟩)
                    · skip
                      refine wq_val 211 (by kernel_rfl) (fun w1 c1 => (op_pick_f (v := .bool false) rfl rfl)) ?_
                      refine wq_val 212 (by kernel_rfl) (fun w1 c1 => (op_move (v := .bool false) rfl)) ?_
                      refine wq_val 213 (by kernel_rfl) (fun w1 c1 => (op_fieldL (m := 6) (k := 6) rfl (by kernel_rfl) rfl)) ?_
                      refine wq_val 214 (by kernel_rfl) (fun w1 c1 => (op_fieldL (m := 5) (k := 11) rfl (by kernel_rfl) rfl)) ?_
                      refine wq_val 215 (by kernel_rfl) (fun w1 c1 => (op_load rfl (by kernel_rfl) (c1.cell 2 (u := .int .i64 _) rfl rfl))) ?_
                      refine wq_dec 216 (by kernel_rfl) (fun w1 c1 => (op_lss rfl rfl)) (fun h633 => ?_) (fun h633 => ?_)
                      · skip
                        refine wq_val 217 (by kernel_rfl) (fun w1 c1 => (op_pick_f (v := .bool true) rfl rfl)) ?_
                        refine wq_val 218 (by kernel_rfl) (fun w1 c1 => (op_move (v := .bool true) rfl)) ?_
                        refine wq_skip 219 (by kernel_rfl) ?_
                        refine wq_skip 220 (by kernel_rfl) ?_
                        refine wq_skip 221 (by kernel_rfl) ?_
                        refine wq_skip 222 (by kernel_rfl) ?_
                        refine wq_val 223 (by kernel_rfl) (fun w1 c1 => (op_pick_t (v := .bool true) rfl rfl)) ?_
                        refine wq_val 224 (by kernel_rfl) (fun w1 c1 => (op_move (v := .bool true) rfl)) ?_
                        refine wq_call 225 (by kernel_rfl) (fun w1 c1 => op_call (by kernel_rfl)) (fun w1 c1 => (m_recyclinglaw57_awake_ok N w1   r629 (h630 (by rw [decide_eq_false h631, decide_eq_false h632, decide_eq_true h633] <;> rfl))).mono (fun _ _ ⟨_, hx, hu⟩ => ⟨hx, c1.call hu⟩)) ?_
                        refine wq_val 226 (by kernel_rfl) (fun w1 c1 => (op_pick_t (v := .bool _) rfl rfl)) ?_
                        refine wq_val 2 (by kernel_rfl) (fun w1 c1 => (op_assign (v := .bool _) rfl)) ?_
                        exact leaf_q (sub_out 26 _ rfl (by kernel_rfl) ⟨(congrArg Value.bool (by rw [decide_eq_false h631, decide_eq_false h632, decide_eq_true h633] <;> rfl)), trivial⟩)
                      · skip
                        refine wq_val 217 (by kernel_rfl) (fun w1 c1 => (op_pick_f (v := .bool false) rfl rfl)) ?_
                        refine wq_val 218 (by kernel_rfl) (fun w1 c1 => (op_move (v := .bool false) rfl)) ?_
                        refine wq_val 219 (by kernel_rfl) (fun w1 c1 => (op_fieldL (m := 6) (k := 6) rfl (by kernel_rfl) rfl)) ?_
                        refine wq_val 220 (by kernel_rfl) (fun w1 c1 => (op_fieldL (m := 5) (k := 11) rfl (by kernel_rfl) rfl)) ?_
                        refine wq_val 221 (by kernel_rfl) (fun w1 c1 => (op_load rfl (by kernel_rfl) (c1.cell 2 (u := .int .i64 _) rfl rfl))) ?_
                        refine wq_dec 222 (by kernel_rfl) (fun w1 c1 => (op_gtr rfl rfl)) (fun h634 => ?_) (fun h634 => ?_)
                        · skip
                          refine wq_val 223 (by kernel_rfl) (fun w1 c1 => (op_pick_f (v := .bool true) rfl rfl)) ?_
                          refine wq_val 224 (by kernel_rfl) (fun w1 c1 => (op_move (v := .bool true) rfl)) ?_
                          refine wq_call 225 (by kernel_rfl) (fun w1 c1 => op_call (by kernel_rfl)) (fun w1 c1 => (m_recyclinglaw57_awake_ok N w1   r629 (h630 (by rw [decide_eq_false h631, decide_eq_false h632, decide_eq_false h633, decide_eq_true h634] <;> rfl))).mono (fun _ _ ⟨_, hx, hu⟩ => ⟨hx, c1.call hu⟩)) ?_
                          refine wq_val 226 (by kernel_rfl) (fun w1 c1 => (op_pick_t (v := .bool _) rfl rfl)) ?_
                          refine wq_val 2 (by kernel_rfl) (fun w1 c1 => (op_assign (v := .bool _) rfl)) ?_
                          exact leaf_q (sub_out 26 _ rfl (by kernel_rfl) ⟨(congrArg Value.bool (by rw [decide_eq_false h631, decide_eq_false h632, decide_eq_false h633, decide_eq_true h634] <;> rfl)), trivial⟩)
                        · skip
                          refine wq_val 223 (by kernel_rfl) (fun w1 c1 => (op_pick_f (v := .bool false) rfl rfl)) ?_
                          refine wq_val 224 (by kernel_rfl) (fun w1 c1 => (op_move (v := .bool false) rfl)) ?_
                          refine wq_skip 225 (by kernel_rfl) ?_
                          refine wq_val 226 (by kernel_rfl) (fun w1 c1 => (op_pick_f (v := .bool false) rfl rfl)) ?_
                          refine wq_val 2 (by kernel_rfl) (fun w1 c1 => (op_assign (v := .bool false) rfl)) ?_
                          exact leaf_q (sub_out 26 _ rfl (by kernel_rfl) ⟨(congrArg Value.bool (by rw [decide_eq_false h631, decide_eq_false h632, decide_eq_false h633, decide_eq_false h634] <;> rfl)), trivial⟩)
                refine xm_next ?_
                refine cm_ret ?_
                refine xm_thenR ?_
                exact xm_retT rfl (by kernel_rfl) (show _ = Value.bool _ from rfl) fun w1 c1 => ⟨(), rfl, hsub [] (by kernel_rfl) rfl w1 c1⟩
              · skip
                refine cm_skip ?_
                refine xm_next ?_
                refine cm_seq ?_
                refine cm_region ?_
                refine lm_val 228 (by kernel_rfl) (fun w1 c1 => (op_loadR [.int .i64 _, .int .i64 _, .int .i64 _, .int .i64 _, .slice _ _ _, .int .i64 _] rfl (by kernel_rfl) (c1.cells 0 rfl rfl))) ?_
                refine lm_val 229 (by kernel_rfl) (fun w1 c1 => (op_fieldL (m := 1) (k := 1) rfl (by kernel_rfl) rfl)) ?_
                refine lm_val 230 (by kernel_rfl) (fun w1 c1 => (op_load rfl (by kernel_rfl) (c1.cell 4 (u := .int .i64 _) rfl rfl))) ?_
                refine lm_call 231 (V := (fun (r : Int × Int) (_u : Unit) => .tuple #[.int .i64 r.1, .int .i64 r.2])) (HR := (fun (_r : Int × Int) (_u : Unit) => [])) (by kernel_rfl) (fun w1 => op_call (by kernel_rfl)) (fun r1 hr1 w1 c1 => m_complaint_Rest_ok N w1 r625.1 ((ix p0.Bill.Items p0.Complaint.Item).Ref) u626.1 u626.2.1 u626.2.2 (c1.own 1 rfl encApiItem_len) (c1.ownZ 1 rfl) r1 hr1) ?_
                intro r635 u636
                refine lm_val 227 (by kernel_rfl) (fun w1 c1 => (op_move (v := .tuple _) rfl)) ?_
                refine lm_val 232 (by kernel_rfl) (fun w1 c1 => (op_extract (v := .int .i64 _) rfl rfl)) ?_
                refine lm_val 233 (by kernel_rfl) (fun w1 c1 => (op_extract (v := .int .i64 _) rfl rfl)) ?_
                refine lm_val 18 (by kernel_rfl) (fun w1 c1 => (op_assign (v := .int .i64 _) rfl)) ?_
                refine lm_val 19 (by kernel_rfl) (fun w1 c1 => (op_assign (v := .int .i64 _) rfl)) ?_
                refine lm_nil ?_
                refine xm_next ?_
                refine cm_seq ?_
                refine cm_seq ?_
                refine cm_ck (fun h637 => ?_)
                refine cm_ck (fun h638 => ?_)
                refine cm_ck (fun h639 => ?_)
                refine cm_cutE [(265, .bool ((((decide (r635.2 ≠ 0)) || (decide (r635.1 ≠ (r26.1 - r11.1.Credit)))) || (decide (r625.1.Total ≠ (p0.Bill.Total - r11.1.Credit)))) || (decide ((List.length r625.1.Items : Int) ≠ ((List.length p0.Bill.Items : Int) + (1 : Int))))))] ?_ ?_
                · skip
                  refine wq_val 234 (by kernel_rfl) (fun w1 c1 => (op_move (v := .int .i64 _) rfl)) ?_
                  refine wq_dec 235 (by kernel_rfl) (fun w1 c1 => (op_neq rfl rfl)) (fun h640 => ?_) (fun h640 => ?_)
                  · skip
                    refine wq_val 236 (by kernel_rfl) (fun w1 c1 => (op_move (v := .bool true) rfl)) ?_
                    refine wq_skip 237 (by kernel_rfl) ?_
                    refine wq_skip 238 (by kernel_rfl) ?_
                    refine wq_skip 239 (by kernel_rfl) ?_
                    refine wq_skip 240 (by kernel_rfl) ?_
                    refine wq_skip 241 (by kernel_rfl) ?_
                    refine wq_skip 242 (by kernel_rfl) ?_
                    refine wq_val 243 (by kernel_rfl) (fun w1 c1 => (op_pick_t (v := .bool true) rfl rfl)) ?_
                    refine wq_val 244 (by kernel_rfl) (fun w1 c1 => (op_move (v := .bool true) rfl)) ?_
                    refine wq_skip 245 (by kernel_rfl) ?_
                    refine wq_skip 246 (by kernel_rfl) ?_
                    refine wq_skip 247 (by kernel_rfl) ?_
                    refine wq_skip 248 (by kernel_rfl) ?_
                    refine wq_skip 249 (by kernel_rfl) ?_
                    refine wq_skip 250 (by kernel_rfl) ?_
                    refine wq_skip 251 (by kernel_rfl) ?_
                    refine wq_skip 252 (by kernel_rfl) ?_
                    refine wq_skip 253 (by kernel_rfl) ?_
                    refine wq_val 254 (by kernel_rfl) (fun w1 c1 => (op_pick_t (v := .bool true) rfl rfl)) ?_
                    refine wq_val 255 (by kernel_rfl) (fun w1 c1 => (op_move (v := .bool true) rfl)) ?_
                    refine wq_skip 256 (by kernel_rfl) ?_
                    refine wq_skip 257 (by kernel_rfl) ?_
                    refine wq_skip 258 (by kernel_rfl) ?_
                    refine wq_skip 259 (by kernel_rfl) ?_
                    refine wq_skip 260 (by kernel_rfl) ?_
                    refine wq_skip 261 (by kernel_rfl) ?_
                    refine wq_skip 262 (by kernel_rfl) ?_
                    refine wq_skip 263 (by kernel_rfl) ?_
                    refine wq_skip 264 (by kernel_rfl) ?_
                    refine wq_val 265 (by kernel_rfl) (fun w1 c1 => (op_pick_t (v := .bool true) rfl rfl)) ?_
                    exact leaf_q (sub_out 32 _ rfl (by kernel_rfl) ⟨(congrArg Value.bool (by rw [decide_eq_true h640] <;> rfl)), trivial⟩)
                  · skip
                    refine wq_val 236 (by kernel_rfl) (fun w1 c1 => (op_move (v := .bool false) rfl)) ?_
                    refine wq_val 237 (by kernel_rfl) (fun w1 c1 => (op_move (v := .int .i64 _) rfl)) ?_
                    refine wq_val 238 (by kernel_rfl) (fun w1 c1 => (op_move (v := .int .i64 _) rfl)) ?_
                    refine wq_val 239 (by kernel_rfl) (fun w1 c1 => (op_fieldL (m := 0) (k := 0) rfl (by kernel_rfl) rfl)) ?_
                    refine wq_val 240 (by kernel_rfl) (fun w1 c1 => (op_load rfl (by kernel_rfl) (c1.cell 3 (u := .int .i64 _) rfl rfl))) ?_
                    refine wq_val 241 (by kernel_rfl) (fun w1 c1 => (op_sub rfl rfl (h637 (by rw [decide_eq_false h640] <;> rfl)))) ?_
                    refine wq_dec 242 (by kernel_rfl) (fun w1 c1 => (op_neq rfl rfl)) (fun h641 => ?_) (fun h641 => ?_)
                    · skip
                      refine wq_val 243 (by kernel_rfl) (fun w1 c1 => (op_pick_f (v := .bool true) rfl rfl)) ?_
                      refine wq_val 244 (by kernel_rfl) (fun w1 c1 => (op_move (v := .bool true) rfl)) ?_
                      refine wq_skip 245 (by kernel_rfl) ?_
                      refine wq_skip 246 (by kernel_rfl) ?_
                      refine wq_skip 247 (by kernel_rfl) ?_
                      refine wq_skip 248 (by kernel_rfl) ?_
                      refine wq_skip 249 (by kernel_rfl) ?_
                      refine wq_skip 250 (by kernel_rfl) ?_
                      refine wq_skip 251 (by kernel_rfl) ?_
                      refine wq_skip 252 (by kernel_rfl) ?_
                      refine wq_skip 253 (by kernel_rfl) ?_
                      refine wq_val 254 (by kernel_rfl) (fun w1 c1 => (op_pick_t (v := .bool true) rfl rfl)) ?_
                      refine wq_val 255 (by kernel_rfl) (fun w1 c1 => (op_move (v := .bool true) rfl)) ?_
                      refine wq_skip 256 (by kernel_rfl) ?_
                      refine wq_skip 257 (by kernel_rfl) ?_
                      refine wq_skip 258 (by kernel_rfl) ?_
                      refine wq_skip 259 (by kernel_rfl) ?_
                      refine wq_skip 260 (by kernel_rfl) ?_
                      refine wq_skip 261 (by kernel_rfl) ?_
                      refine wq_skip 262 (by kernel_rfl) ?_
                      refine wq_skip 263 (by kernel_rfl) ?_
                      refine wq_skip 264 (by kernel_rfl) ?_
                      refine wq_val 265 (by kernel_rfl) (fun w1 c1 => (op_pick_t (v := .bool true) rfl rfl)) ?_
                      exact leaf_q (sub_out 32 _ rfl (by kernel_rfl) ⟨(congrArg Value.bool (by rw [decide_eq_false h640, decide_eq_true h641] <;> rfl)), trivial⟩)
                    · skip
                      refine wq_val 243 (by kernel_rfl) (fun w1 c1 => (op_pick_f (v := .bool false) rfl rfl)) ?_
                      refine wq_val 244 (by kernel_rfl) (fun w1 c1 => (op_move (v := .bool false) rfl)) ?_
                      refine wq_val 245 (by kernel_rfl) (fun w1 c1 => (op_fieldL (m := 5) (k := 5) rfl (by kernel_rfl) rfl)) ?_
                      refine wq_val 246 (by kernel_rfl) (fun w1 c1 => (op_load rfl (by kernel_rfl) (c1.cell 0 (u := .int .i64 _) rfl rfl))) ?_
                      refine wq_val 247 (by kernel_rfl) (fun w1 c1 => (op_fieldL (m := 6) (k := 6) rfl (by kernel_rfl) rfl)) ?_
                      refine wq_val 248 (by kernel_rfl) (fun w1 c1 => (op_fieldL (m := 5) (k := 11) rfl (by kernel_rfl) rfl)) ?_
                      refine wq_val 249 (by kernel_rfl) (fun w1 c1 => (op_load rfl (by kernel_rfl) (c1.cell 2 (u := .int .i64 _) rfl rfl))) ?_
                      refine wq_val 250 (by kernel_rfl) (fun w1 c1 => (op_fieldL (m := 0) (k := 0) rfl (by kernel_rfl) rfl)) ?_
                      refine wq_val 251 (by kernel_rfl) (fun w1 c1 => (op_load rfl (by kernel_rfl) (c1.cell 3 (u := .int .i64 _) rfl rfl))) ?_
                      refine wq_val 252 (by kernel_rfl) (fun w1 c1 => (op_sub rfl rfl (h638 (by rw [decide_eq_false h640, decide_eq_false h641] <;> rfl)))) ?_
                      refine wq_dec 253 (by kernel_rfl) (fun w1 c1 => (op_neq rfl rfl)) (fun h642 => ?_) (fun h642 => ?_)
                      · skip
                        refine wq_val 254 (by kernel_rfl) (fun w1 c1 => (op_pick_f (v := .bool true) rfl rfl)) ?_
                        refine wq_val 255 (by kernel_rfl) (fun w1 c1 => (op_move (v := .bool true) rfl)) ?_
                        refine wq_skip 256 (by kernel_rfl) ?_
                        refine wq_skip 257 (by kernel_rfl) ?_
                        refine wq_skip 258 (by kernel_rfl) ?_
                        refine wq_skip 259 (by kernel_rfl) ?_
                        refine wq_skip 260 (by kernel_rfl) ?_
                        refine wq_skip 261 (by kernel_rfl) ?_
                        refine wq_skip 262 (by kernel_rfl) ?_
                        refine wq_skip 263 (by kernel_rfl) ?_
                        refine wq_skip 264 (by kernel_rfl) ?_
                        refine wq_val 265 (by kernel_rfl) (fun w1 c1 => (op_pick_t (v := .bool true) rfl rfl)) ?_
                        exact leaf_q (sub_out 32 _ rfl (by kernel_rfl) ⟨(congrArg Value.bool (by rw [decide_eq_false h640, decide_eq_false h641, decide_eq_true h642] <;> rfl)), trivial⟩)
                      · skip
                        refine wq_val 254 (by kernel_rfl) (fun w1 c1 => (op_pick_f (v := .bool false) rfl rfl)) ?_
                        refine wq_val 255 (by kernel_rfl) (fun w1 c1 => (op_move (v := .bool false) rfl)) ?_
                        refine wq_val 256 (by kernel_rfl) (fun w1 c1 => (op_fieldL (m := 4) (k := 4) rfl (by kernel_rfl) rfl)) ?_
                        refine wq_val 257 (by kernel_rfl) (fun w1 c1 => (op_load rfl (by kernel_rfl) (c1.cell 0 (u := .slice _ _ _) rfl rfl))) ?_
                        refine wq_val 258 (by kernel_rfl) (fun w1 c1 => (op_lenN rfl (by kernel_rfl) (c1.ownZ 1 rfl).2.2)) ?_
                        refine wq_val 259 (by kernel_rfl) (fun w1 c1 => (op_fieldL (m := 6) (k := 6) rfl (by kernel_rfl) rfl)) ?_
                        refine wq_val 260 (by kernel_rfl) (fun w1 c1 => (op_fieldL (m := 4) (k := 10) rfl (by kernel_rfl) rfl)) ?_
                        refine wq_val 261 (by kernel_rfl) (fun w1 c1 => (op_load rfl (by kernel_rfl) (c1.cell 2 (u := .slice _ _ _) rfl rfl))) ?_
                        refine wq_val 262 (by kernel_rfl) (fun w1 c1 => (op_lenN rfl (by kernel_rfl) hz_p06.2.2)) ?_
                        refine wq_val 263 (by kernel_rfl) (fun w1 c1 => (op_add rfl rfl (h639 (by rw [decide_eq_false h640, decide_eq_false h641, decide_eq_false h642] <;> rfl)))) ?_
                        refine wq_val 264 (by kernel_rfl) (fun w1 c1 => (op_neq rfl rfl)) ?_
                        refine wq_val 265 (by kernel_rfl) (fun w1 c1 => (op_pick_f (v := .bool _) rfl rfl)) ?_
                        exact leaf_q (sub_out 32 _ rfl (by kernel_rfl) ⟨(congrArg Value.bool (by rw [decide_eq_false h640, decide_eq_false h641, decide_eq_false h642] <;> rfl)), trivial⟩)
                refine xm_next ?_
                refine cm_condB (by kernel_rfl) rfl (fun h643 => ?_) (fun h643 => ?_)
                · skip
                  refine cm_seq ?_
                  refine cm_region ?_
                  refine lm_val 2 (by kernel_rfl) (fun w1 c1 => (op_assign (v := .bool false) rfl)) ?_
                  refine lm_nil ?_
                  refine xm_next ?_
                  refine cm_ret ?_
                  refine xm_thenR ?_
                  exact xm_retT rfl (by kernel_rfl) (show _ = Value.bool false from rfl) fun w1 c1 => ⟨(), rfl, hsub [] (by kernel_rfl) rfl w1 c1⟩
                · skip
                  refine cm_skip ?_
                  refine xm_next ?_
                  refine cm_seq ?_
                  refine cm_seq ?_
                  refine cm_region ?_
                  refine lm_val 266 (by kernel_rfl) (fun w1 c1 => (op_fieldL (m := 12) (k := 12) rfl (by kernel_rfl) rfl)) ?_
                  refine lm_val 267 (by kernel_rfl) (fun w1 c1 => (op_fieldL (m := 3) (k := 15) rfl (by kernel_rfl) rfl)) ?_
                  refine lm_val 268 (by kernel_rfl) (fun w1 c1 => (op_load rfl (by kernel_rfl) (c1.cell 2 (u := .int .i64 _) rfl rfl))) ?_
                  refine lm_val 269 (by kernel_rfl) (fun w1 c1 => (op_eql rfl rfl)) ?_
                  refine lm_nil ?_
                  refine xm_next ?_
                  refine cm_cond (by kernel_rfl) rfl (fun h644 => ?_) (fun h644 => ?_)
                  · skip
                    refine cm_seq ?_
                    refine cm_region ?_
                    refine lm_call 270 (V := (fun (r : Bool) (_u : Unit) => .bool r)) (HR := (fun (_r : Bool) (_u : Unit) => [])) (by kernel_rfl) (fun w1 => op_call (by kernel_rfl)) (fun r1 hr1 w1 c1 => m_recyclinglaw57_awake_ok N w1   r1 hr1) ?_
                    intro r645 u646
                    refine lm_val 2 (by kernel_rfl) (fun w1 c1 => (op_assign (v := .bool _) rfl)) ?_
                    refine lm_nil ?_
                    refine xm_next ?_
                    refine cm_ret ?_
                    refine xm_thenR ?_
                    exact xm_retT rfl (by kernel_rfl) (show _ = Value.bool _ from rfl) fun w1 c1 => ⟨(), rfl, hsub [] (by kernel_rfl) rfl w1 c1⟩
                  · skip
                    refine cm_skip ?_
                    refine xm_next ?_
                    refine cm_seq ?_
                    refine cm_region ?_
                    refine lm_val 272 (by kernel_rfl) (fun w1 c1 => (op_fieldL (m := 0) (k := 0) rfl (by kernel_rfl) rfl)) ?_
                    refine lm_val 273 (by kernel_rfl) (fun w1 c1 => (op_loadR [.slice _ _ _, .slice _ _ _, .slice _ _ _, .slice _ _ _, .slice _ _ _, .int .i64 _] rfl (by kernel_rfl) (c1.cells 2 rfl rfl))) ?_
                    refine lm_val 274 (by kernel_rfl) (fun w1 c1 => (op_loadR [.int .i64 _, .int .i64 _, .int .i64 _, .int .i64 _, .slice _ _ _, .int .i64 _] rfl (by kernel_rfl) (c1.cells 0 rfl rfl))) ?_
                    refine lm_val 275 (by kernel_rfl) (fun w1 c1 => (op_fieldL (m := 12) (k := 12) rfl (by kernel_rfl) rfl)) ?_
                    refine lm_val 276 (by kernel_rfl) (fun w1 c1 => (op_loadR [.int .i64 _, .int .i64 _, .int .i64 _, .int .i64 _] rfl (by kernel_rfl) (c1.cells 2 rfl rfl))) ?_
                    refine lm_val 277 (by kernel_rfl) (fun w1 c1 => (op_fieldL (m := 16) (k := 16) rfl (by kernel_rfl) rfl)) ?_
                    refine lm_val 278 (by kernel_rfl) (fun w1 c1 => (op_load rfl (by kernel_rfl) (c1.cell 2 (u := .int .i64 _) rfl rfl))) ?_
                    refine lm_call 279 (V := (fun (r : ApiRuling × Int) (_u : Unit) => .tuple #[.agg #[.int .i64 r.1.Credit, .int .i64 r.1.Err], .int .i64 r.2])) (HR := (fun (_r : ApiRuling × Int) (_u : Unit) => [])) (by kernel_rfl) (fun w1 => op_call (by kernel_rfl)) (fun r1 hr1 w1 c1 => m_complaint_Decide_ok N w1 p0.Account r625.1 p0.Complaint p0.Days A_p01 n_p01 c_p01 A_p02 n_p02 c_p02 A_p03 n_p03 c_p03 A_p04 n_p04 c_p04 A_p05 n_p05 c_p05 u626.1 u626.2.1 u626.2.2 (hr_p01.old c1) hz_p01 (hr_p02.old c1) hz_p02 (hr_p03.old c1) hz_p03 (hr_p04.old c1) hz_p04 (hr_p05.old c1) hz_p05 (c1.own 1 rfl encApiItem_len) (c1.ownZ 1 rfl) r1 hr1) ?_
                    intro r647 u648
                    refine lm_val 271 (by kernel_rfl) (fun w1 c1 => (op_move (v := .tuple _) rfl)) ?_
                    refine lm_val 280 (by kernel_rfl) (fun w1 c1 => (op_extract (v := .agg _) rfl rfl)) ?_
                    refine lm_val 281 (by kernel_rfl) (fun w1 c1 => (op_extract (v := .int .i64 _) rfl rfl)) ?_
                    refine lm_alloc 20 [.int .i64 0, .int .i64 0] (v := .agg #[.int .i64 0, .int .i64 0]) (by kernel_rfl) (by kernel_rfl) rfl ?_
                    intro b649
                    refine lm_storeA 0 [.int .i64 _, .int .i64 _] [_, _] (H' := [blkE _ _ [_, _], _, _, _, _, _]) (by kernel_rfl) rfl rfl (by kernel_rfl) rfl rfl (by kernel_rfl) rfl rfl ?_
                    refine lm_val 21 (by kernel_rfl) (fun w1 c1 => (op_assign (v := .int .i64 _) rfl)) ?_
                    refine lm_nil ?_
                    refine xm_next ?_
                    refine cm_seq ?_
                    refine cm_callIf fun r650 h651 => ?_
                    refine cm_cutE [(2, .bool (((decide (r647.2 = 0)) && (decide (r647.1 = (ApiRuling.mk 0 13)))) && r650))] ?_ ?_
                    · skip
                      refine wq_val 282 (by kernel_rfl) (fun w1 c1 => (op_move (v := .int .i64 _) rfl)) ?_
                      refine wq_dec 283 (by kernel_rfl) (fun w1 c1 => (op_eql rfl rfl)) (fun h652 => ?_) (fun h652 => ?_)
                      · skip
                        refine wq_val 284 (by kernel_rfl) (fun w1 c1 => (op_move (v := .bool true) rfl)) ?_
                        refine wq_val 285 (by kernel_rfl) (fun w1 c1 => (op_loadR [.int .i64 _, .int .i64 _] rfl (by kernel_rfl) (c1.cells 0 rfl rfl))) ?_
                        refine wq_val 286 (by kernel_rfl) (fun w1 c1 => (op_build (z := [.int .i64 0, .int .i64 0]) (tab := [(0, 1), (1, 1)]) (cs := [.int .i64 _, .int .i64 _]) [(1, [.int .i64 _])] (by kernel_rfl) (by kernel_rfl) (fillOk_cons rfl rfl rfl fillOk_nil) rfl)) ?_
                        refine wq_dec 287 (by kernel_rfl) (fun w1 c1 => (op_eqApiRuling r647.1 (ApiRuling.mk 0 13) rfl rfl)) (fun h653 => ?_) (fun h653 => ?_)
                        · skip
                          refine wq_val 288 (by kernel_rfl) (fun w1 c1 => (op_pick_t (v := .bool true) rfl rfl)) ?_
                          refine wq_val 289 (by kernel_rfl) (fun w1 c1 => (op_move (v := .bool true) rfl)) ?_
                          refine wq_call 290 (by kernel_rfl) (fun w1 c1 => op_call (by kernel_rfl)) (fun w1 c1 => (m_recyclinglaw57_awake_ok N w1   r650 (h651 (by rw [decide_eq_true h652, decide_eq_true h653] <;> rfl))).mono (fun _ _ ⟨_, hx, hu⟩ => ⟨hx, c1.call hu⟩)) ?_
                          refine wq_val 291 (by kernel_rfl) (fun w1 c1 => (op_pick_t (v := .bool _) rfl rfl)) ?_
                          refine wq_val 2 (by kernel_rfl) (fun w1 c1 => (op_assign (v := .bool _) rfl)) ?_
                          exact leaf_q (sub_out 11 _ rfl (by kernel_rfl) ⟨(congrArg Value.bool (by rw [decide_eq_true h652, decide_eq_true h653] <;> rfl)), trivial⟩)
                        · skip
                          refine wq_val 288 (by kernel_rfl) (fun w1 c1 => (op_pick_t (v := .bool false) rfl rfl)) ?_
                          refine wq_val 289 (by kernel_rfl) (fun w1 c1 => (op_move (v := .bool false) rfl)) ?_
                          refine wq_skip 290 (by kernel_rfl) ?_
                          refine wq_val 291 (by kernel_rfl) (fun w1 c1 => (op_pick_f (v := .bool false) rfl rfl)) ?_
                          refine wq_val 2 (by kernel_rfl) (fun w1 c1 => (op_assign (v := .bool false) rfl)) ?_
                          exact leaf_q (sub_out 11 _ rfl (by kernel_rfl) ⟨(congrArg Value.bool (by rw [decide_eq_true h652, decide_eq_false h653] <;> rfl)), trivial⟩)
                      · skip
                        refine wq_val 284 (by kernel_rfl) (fun w1 c1 => (op_move (v := .bool false) rfl)) ?_
                        refine wq_skip 285 (by kernel_rfl) ?_
                        refine wq_skip 286 (by kernel_rfl) ?_
                        refine wq_skip 287 (by kernel_rfl) ?_
                        refine wq_val 288 (by kernel_rfl) (fun w1 c1 => (op_pick_f (v := .bool false) rfl rfl)) ?_
                        refine wq_val 289 (by kernel_rfl) (fun w1 c1 => (op_move (v := .bool false) rfl)) ?_
                        refine wq_skip 290 (by kernel_rfl) ?_
                        refine wq_val 291 (by kernel_rfl) (fun w1 c1 => (op_pick_f (v := .bool false) rfl rfl)) ?_
                        refine wq_val 2 (by kernel_rfl) (fun w1 c1 => (op_assign (v := .bool false) rfl)) ?_
                        exact leaf_q (sub_out 11 _ rfl (by kernel_rfl) ⟨(congrArg Value.bool (by rw [decide_eq_false h652] <;> rfl)), trivial⟩)
                    refine xm_next ?_
                    refine cm_ret ?_
                    exact xm_retT rfl (by kernel_rfl) (show _ = Value.bool _ from rfl) fun w1 c1 => ⟨(), rfl, hsub [] (by kernel_rfl) rfl w1 c1⟩
end Go.Proofs.Ytljogldcejcikaa
