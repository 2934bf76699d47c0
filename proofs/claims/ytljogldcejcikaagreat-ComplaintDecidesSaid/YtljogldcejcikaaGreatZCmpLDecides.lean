/- Models of functions, and that the code follows them. Written by deco.py. -/
import Derived.Test.YtljogldcejcikaaGreatZCmpAwake
namespace Go.Proofs.YtljogldcejcikaaGreat
open Go.RowKit

/-- recyclinglaw57.ComplaintDecides -/
def m_recyclinglaw57_ComplaintDecides (N : Nat) (p0 : Recyclinglaw57Case) : Option (Bool) :=
 Option.bind (m_recyclinglaw57_few N p0.Account p0.Bill) fun r6 => (if (!r6) = true then
  Option.bind (m_recyclinglaw57_awake N) fun r9 => some (r9)
 else
  Option.bind (m_complaint_Decide N p0.Account p0.Bill p0.Complaint p0.Days) fun r11 => Option.bind (m_recyclingref57_Decide N p0.Account p0.Bill p0.Complaint p0.Days) fun r14 => callIf (((decide (r11.1 = r14.1)) && (decide (r11.2 = r14.2))) = true) (m_recyclinglaw57_awake N) fun r17 => some ((((decide (r11.1 = r14.1)) && (decide (r11.2 = r14.2))) && r17)))
set_option maxRecDepth 20000 in
theorem m_recyclinglaw57_ComplaintDecides_ok (N : Nat) (w0 : World) (p0 : Recyclinglaw57Case) (A_p01 : Option Addr) (n_p01 c_p01 : Nat) (A_p02 : Option Addr) (n_p02 c_p02 : Nat) (A_p03 : Option Addr) (n_p03 c_p03 : Nat) (A_p04 : Option Addr) (n_p04 c_p04 : Nat) (A_p05 : Option Addr) (n_p05 c_p05 : Nat) (A_p06 : Option Addr) (n_p06 c_p06 : Nat) (hr_p01 : RdE w0 2 encApiHousehold A_p01 p0.Account.Households) (hz_p01 : SW A_p01 n_p01 c_p01 (List.length p0.Account.Households)) (hr_p02 : RdE w0 5 encApiContainer A_p02 p0.Account.Containers) (hz_p02 : SW A_p02 n_p02 c_p02 (List.length p0.Account.Containers)) (hr_p03 : RdE w0 4 encApiAssign A_p03 p0.Account.Assigns) (hz_p03 : SW A_p03 n_p03 c_p03 (List.length p0.Account.Assigns)) (hr_p04 : RdE w0 7 encApiEmptying A_p04 p0.Account.Emptyings) (hz_p04 : SW A_p04 n_p04 c_p04 (List.length p0.Account.Emptyings)) (hr_p05 : RdE w0 5 encApiTariff A_p05 p0.Account.Tariffs) (hz_p05 : SW A_p05 n_p05 c_p05 (List.length p0.Account.Tariffs)) (hr_p06 : RdE w0 5 encApiItem A_p06 p0.Bill.Items) (hz_p06 : SW A_p06 n_p06 c_p06 (List.length p0.Bill.Items)) (r : Bool) (hr : m_recyclinglaw57_ComplaintDecides N p0 = some r) :
  Calls Tryz.prog 3 [.agg #[.slice A_p01 n_p01 c_p01, .slice A_p02 n_p02 c_p02, .slice A_p03 n_p03 c_p03, .slice A_p04 n_p04 c_p04, .slice A_p05 n_p05 c_p05, .int .i64 p0.Account.Gap, .int .i64 p0.Bill.ID, .int .i64 p0.Bill.Household, .int .i64 p0.Bill.When.From, .int .i64 p0.Bill.When.To, .slice A_p06 n_p06 c_p06, .int .i64 p0.Bill.Total, .int .i64 p0.Complaint.Bill, .int .i64 p0.Complaint.Item, .int .i64 p0.Complaint.At, .int .i64 p0.Complaint.Kind, .int .i64 p0.Days]].toArray w0 fun x w1 => ∃ u, x = .returned ((fun (r : Bool) (_u : Unit) => .bool r) r u) ∧ Hs w0 ((fun (_r : Bool) (_u : Unit) => []) r u) w1 := by
 refine calls_cm (n := 49) (R := fun r x w1 => ∃ u, x = .returned ((fun (r : Bool) (_u : Unit) => .bool r) r u) ∧ Hs w0 ((fun (_r : Bool) (_u : Unit) => []) r u) w1) Tryz.func3 rfl rfl (Nat.le_of_ble_eq_true rfl) ?_ r hr
 unfold m_recyclinglaw57_ComplaintDecides
 refine cq ?_
 refine cr ?_
 refine lm_box 1 [.slice _ _ _, .slice _ _ _, .slice _ _ _, .slice _ _ _, .slice _ _ _, .int .i64 _, .int .i64 _, .int .i64 _, .int .i64 _, .int .i64 _, .slice _ _ _, .int .i64 _, .int .i64 _, .int .i64 _, .int .i64 _, .int .i64 _, .int .i64 _] (by kernel_rfl) rfl ?_
 intro b5
 refine lv 2 (by kernel_rfl) (fun w1 c1 => (oa (v := .bool false) rfl)) ?_
 refine ln ?_
 refine xn ?_
 refine cq ?_
 refine cq ?_
 refine cr ?_
 refine lv 7 (by kernel_rfl) (fun w1 c1 => (oF (m := 0) (k := 0) rfl (by kernel_rfl) rfl)) ?_
 refine lv 8 (by kernel_rfl) (fun w1 c1 => (op_loadR [.slice _ _ _, .slice _ _ _, .slice _ _ _, .slice _ _ _, .slice _ _ _, .int .i64 _] rfl (by kernel_rfl) (c1.cells 0 rfl rfl))) ?_
 refine lv 9 (by kernel_rfl) (fun w1 c1 => (oF (m := 6) (k := 6) rfl (by kernel_rfl) rfl)) ?_
 refine lv 10 (by kernel_rfl) (fun w1 c1 => (op_loadR [.int .i64 _, .int .i64 _, .int .i64 _, .int .i64 _, .slice _ _ _, .int .i64 _] rfl (by kernel_rfl) (c1.cells 0 rfl rfl))) ?_
 refine lm_call 11 (V := (fun (r : Bool) (_u : Unit) => .bool r)) (HR := (fun (_r : Bool) (_u : Unit) => [])) (by kernel_rfl) (fun w1 => op_call (by kernel_rfl)) (fun r1 hr1 w1 c1 => m_recyclinglaw57_few_ok N w1 p0.Account p0.Bill A_p01 n_p01 c_p01 A_p02 n_p02 c_p02 A_p03 n_p03 c_p03 A_p04 n_p04 c_p04 A_p05 n_p05 c_p05 A_p06 n_p06 c_p06 (hr_p01.old c1) hz_p01 (hr_p02.old c1) hz_p02 (hr_p03.old c1) hz_p03 (hr_p04.old c1) hz_p04 (hr_p05.old c1) hz_p05 (hr_p06.old c1) hz_p06 r1 hr1) ?_
 intro r6 u7
 refine lv 12 (by kernel_rfl) (fun w1 c1 => (op_not rfl)) ?_
 refine ln ?_
 refine xn ?_
 refine cm_condB (by kernel_rfl) rfl (fun h8 => ?_) (fun h8 => ?_)
 ·skip
  refine cq ?_
  refine cr ?_
  refine lm_call 13 (V := (fun (r : Bool) (_u : Unit) => .bool r)) (HR := (fun (_r : Bool) (_u : Unit) => [])) (by kernel_rfl) (fun w1 => op_call (by kernel_rfl)) (fun r1 hr1 w1 c1 => m_recyclinglaw57_awake_ok N w1   r1 hr1) ?_
  intro r9 u10
  refine lv 2 (by kernel_rfl) (fun w1 c1 => (oa (v := .bool _) rfl)) ?_
  refine ln ?_
  refine xn ?_
  refine cm_ret ?_
  refine xm_thenR ?_
  exact xm_retT rfl (by kernel_rfl) (show _ = Value.bool _ from rfl) fun w1 c1 => ⟨(), rfl, hsub [] (by kernel_rfl) rfl w1 c1⟩
 ·skip
  refine cm_skip ?_
  refine xn ?_
  refine cq ?_
  refine cr ?_
  refine lv 15 (by kernel_rfl) (fun w1 c1 => (oF (m := 0) (k := 0) rfl (by kernel_rfl) rfl)) ?_
  refine lv 16 (by kernel_rfl) (fun w1 c1 => (op_loadR [.slice _ _ _, .slice _ _ _, .slice _ _ _, .slice _ _ _, .slice _ _ _, .int .i64 _] rfl (by kernel_rfl) (c1.cells 0 rfl rfl))) ?_
  refine lv 17 (by kernel_rfl) (fun w1 c1 => (oF (m := 6) (k := 6) rfl (by kernel_rfl) rfl)) ?_
  refine lv 18 (by kernel_rfl) (fun w1 c1 => (op_loadR [.int .i64 _, .int .i64 _, .int .i64 _, .int .i64 _, .slice _ _ _, .int .i64 _] rfl (by kernel_rfl) (c1.cells 0 rfl rfl))) ?_
  refine lv 19 (by kernel_rfl) (fun w1 c1 => (oF (m := 12) (k := 12) rfl (by kernel_rfl) rfl)) ?_
  refine lv 20 (by kernel_rfl) (fun w1 c1 => (op_loadR [.int .i64 _, .int .i64 _, .int .i64 _, .int .i64 _] rfl (by kernel_rfl) (c1.cells 0 rfl rfl))) ?_
  refine lv 21 (by kernel_rfl) (fun w1 c1 => (oF (m := 16) (k := 16) rfl (by kernel_rfl) rfl)) ?_
  refine lv 22 (by kernel_rfl) (fun w1 c1 => (ol rfl (by kernel_rfl) (c1.cell 0 (u := .int .i64 _) rfl rfl))) ?_
  refine lm_call 23 (V := (fun (r : ApiRuling × Int) (_u : Unit) => .tuple #[.agg #[.int .i64 r.1.Credit, .int .i64 r.1.Err], .int .i64 r.2])) (HR := (fun (_r : ApiRuling × Int) (_u : Unit) => [])) (by kernel_rfl) (fun w1 => op_call (by kernel_rfl)) (fun r1 hr1 w1 c1 => m_complaint_Decide_ok N w1 p0.Account p0.Bill p0.Complaint p0.Days A_p01 n_p01 c_p01 A_p02 n_p02 c_p02 A_p03 n_p03 c_p03 A_p04 n_p04 c_p04 A_p05 n_p05 c_p05 A_p06 n_p06 c_p06 (hr_p01.old c1) hz_p01 (hr_p02.old c1) hz_p02 (hr_p03.old c1) hz_p03 (hr_p04.old c1) hz_p04 (hr_p05.old c1) hz_p05 (hr_p06.old c1) hz_p06 r1 hr1) ?_
  intro r11 u12
  refine lv 14 (by kernel_rfl) (fun w1 c1 => (om (v := .tuple _) rfl)) ?_
  refine lv 24 (by kernel_rfl) (fun w1 c1 => (op_extract (v := .agg _) rfl rfl)) ?_
  refine lv 25 (by kernel_rfl) (fun w1 c1 => (op_extract (v := .int .i64 _) rfl rfl)) ?_
  refine lm_alloc 3 [.int .i64 0, .int .i64 0] (v := .agg #[.int .i64 0, .int .i64 0]) (by kernel_rfl) (by kernel_rfl) rfl ?_
  intro b13
  refine lm_storeA 0 [.int .i64 _, .int .i64 _] [_, _] (H' := [blkE _ _ [_, _], _]) (by kernel_rfl) rfl rfl (by kernel_rfl) rfl rfl (by kernel_rfl) rfl rfl ?_
  refine lv 4 (by kernel_rfl) (fun w1 c1 => (oa (v := .int .i64 _) rfl)) ?_
  refine ln ?_
  refine xn ?_
  refine cq ?_
  refine cr ?_
  refine lv 27 (by kernel_rfl) (fun w1 c1 => (oF (m := 0) (k := 0) rfl (by kernel_rfl) rfl)) ?_
  refine lv 28 (by kernel_rfl) (fun w1 c1 => (op_loadR [.slice _ _ _, .slice _ _ _, .slice _ _ _, .slice _ _ _, .slice _ _ _, .int .i64 _] rfl (by kernel_rfl) (c1.cells 1 rfl rfl))) ?_
  refine lv 29 (by kernel_rfl) (fun w1 c1 => (oF (m := 6) (k := 6) rfl (by kernel_rfl) rfl)) ?_
  refine lv 30 (by kernel_rfl) (fun w1 c1 => (op_loadR [.int .i64 _, .int .i64 _, .int .i64 _, .int .i64 _, .slice _ _ _, .int .i64 _] rfl (by kernel_rfl) (c1.cells 1 rfl rfl))) ?_
  refine lv 31 (by kernel_rfl) (fun w1 c1 => (oF (m := 12) (k := 12) rfl (by kernel_rfl) rfl)) ?_
  refine lv 32 (by kernel_rfl) (fun w1 c1 => (op_loadR [.int .i64 _, .int .i64 _, .int .i64 _, .int .i64 _] rfl (by kernel_rfl) (c1.cells 1 rfl rfl))) ?_
  refine lv 33 (by kernel_rfl) (fun w1 c1 => (oF (m := 16) (k := 16) rfl (by kernel_rfl) rfl)) ?_
  refine lv 34 (by kernel_rfl) (fun w1 c1 => (ol rfl (by kernel_rfl) (c1.cell 1 (u := .int .i64 _) rfl rfl))) ?_
  refine lm_call 35 (V := (fun (r : ApiRuling × Int) (_u : Unit) => .tuple #[.agg #[.int .i64 r.1.Credit, .int .i64 r.1.Err], .int .i64 r.2])) (HR := (fun (_r : ApiRuling × Int) (_u : Unit) => [])) (by kernel_rfl) (fun w1 => op_call (by kernel_rfl)) (fun r1 hr1 w1 c1 => m_recyclingref57_Decide_ok N w1 p0.Account p0.Bill p0.Complaint p0.Days A_p01 n_p01 c_p01 A_p02 n_p02 c_p02 A_p03 n_p03 c_p03 A_p04 n_p04 c_p04 A_p05 n_p05 c_p05 A_p06 n_p06 c_p06 (hr_p01.old c1) hz_p01 (hr_p02.old c1) hz_p02 (hr_p03.old c1) hz_p03 (hr_p04.old c1) hz_p04 (hr_p05.old c1) hz_p05 (hr_p06.old c1) hz_p06 r1 hr1) ?_
  intro r14 u15
  refine lv 26 (by kernel_rfl) (fun w1 c1 => (om (v := .tuple _) rfl)) ?_
  refine lv 36 (by kernel_rfl) (fun w1 c1 => (op_extract (v := .agg _) rfl rfl)) ?_
  refine lv 37 (by kernel_rfl) (fun w1 c1 => (op_extract (v := .int .i64 _) rfl rfl)) ?_
  refine lm_alloc 5 [.int .i64 0, .int .i64 0] (v := .agg #[.int .i64 0, .int .i64 0]) (by kernel_rfl) (by kernel_rfl) rfl ?_
  intro b16
  refine lm_storeA 0 [.int .i64 _, .int .i64 _] [_, _] (H' := [blkE _ _ [_, _], _, _]) (by kernel_rfl) rfl rfl (by kernel_rfl) rfl rfl (by kernel_rfl) rfl rfl ?_
  refine lv 6 (by kernel_rfl) (fun w1 c1 => (oa (v := .int .i64 _) rfl)) ?_
  refine ln ?_
  refine xn ?_
  refine cq ?_
  refine cm_callIf fun r17 h18 => ?_
  refine cm_cutE [(2, .bool (((decide (r11.1 = r14.1)) && (decide (r11.2 = r14.2))) && r17))] ?_ ?_
  ·skip
   refine wv 38 (by kernel_rfl) (fun w1 c1 => (op_loadR [.int .i64 _, .int .i64 _] rfl (by kernel_rfl) (c1.cells 1 rfl rfl))) ?_
   refine wv 39 (by kernel_rfl) (fun w1 c1 => (op_loadR [.int .i64 _, .int .i64 _] rfl (by kernel_rfl) (c1.cells 0 rfl rfl))) ?_
   refine wq_dec 40 (by kernel_rfl) (fun w1 c1 => (op_eqApiRuling r11.1 r14.1 rfl rfl)) (fun h19 => ?_) (fun h19 => ?_)
   ·skip
    refine wv 41 (by kernel_rfl) (fun w1 c1 => (om (v := .bool true) rfl)) ?_
    refine wv 42 (by kernel_rfl) (fun w1 c1 => (om (v := .int .i64 _) rfl)) ?_
    refine wv 43 (by kernel_rfl) (fun w1 c1 => (om (v := .int .i64 _) rfl)) ?_
    refine wq_dec 44 (by kernel_rfl) (fun w1 c1 => (op_eql rfl rfl)) (fun h20 => ?_) (fun h20 => ?_)
    ·skip
     refine wv 45 (by kernel_rfl) (fun w1 c1 => (opt (v := .bool true) rfl rfl)) ?_
     refine wv 46 (by kernel_rfl) (fun w1 c1 => (om (v := .bool true) rfl)) ?_
     refine wq_call 47 (by kernel_rfl) (fun w1 c1 => op_call (by kernel_rfl)) (fun w1 c1 => (m_recyclinglaw57_awake_ok N w1   r17 (h18 (by rw [decide_eq_true h19, decide_eq_true h20] <;> rfl))).mono (fun _ _ ⟨_, hx, hu⟩ => ⟨hx, c1.call hu⟩)) ?_
     refine wv 48 (by kernel_rfl) (fun w1 c1 => (opt (v := .bool _) rfl rfl)) ?_
     refine wv 2 (by kernel_rfl) (fun w1 c1 => (oa (v := .bool _) rfl)) ?_
     exact leaf_q (sub_out 12 _ rfl (by kernel_rfl) ⟨(congrArg Value.bool (by rw [decide_eq_true h19, decide_eq_true h20] <;> rfl)), trivial⟩)
    ·skip
     refine wv 45 (by kernel_rfl) (fun w1 c1 => (opt (v := .bool false) rfl rfl)) ?_
     refine wv 46 (by kernel_rfl) (fun w1 c1 => (om (v := .bool false) rfl)) ?_
     refine wk 47 (by kernel_rfl) ?_
     refine wv 48 (by kernel_rfl) (fun w1 c1 => (opf (v := .bool false) rfl rfl)) ?_
     refine wv 2 (by kernel_rfl) (fun w1 c1 => (oa (v := .bool false) rfl)) ?_
     exact leaf_q (sub_out 12 _ rfl (by kernel_rfl) ⟨(congrArg Value.bool (by rw [decide_eq_true h19, decide_eq_false h20] <;> rfl)), trivial⟩)
   ·skip
    refine wv 41 (by kernel_rfl) (fun w1 c1 => (om (v := .bool false) rfl)) ?_
    refine wk 42 (by kernel_rfl) ?_
    refine wk 43 (by kernel_rfl) ?_
    refine wk 44 (by kernel_rfl) ?_
    refine wv 45 (by kernel_rfl) (fun w1 c1 => (opf (v := .bool false) rfl rfl)) ?_
    refine wv 46 (by kernel_rfl) (fun w1 c1 => (om (v := .bool false) rfl)) ?_
    refine wk 47 (by kernel_rfl) ?_
    refine wv 48 (by kernel_rfl) (fun w1 c1 => (opf (v := .bool false) rfl rfl)) ?_
    refine wv 2 (by kernel_rfl) (fun w1 c1 => (oa (v := .bool false) rfl)) ?_
    exact leaf_q (sub_out 12 _ rfl (by kernel_rfl) ⟨(congrArg Value.bool (by rw [decide_eq_false h19] <;> rfl)), trivial⟩)
  refine xn ?_
  refine cm_ret ?_
  exact xm_retT rfl (by kernel_rfl) (show _ = Value.bool _ from rfl) fun w1 c1 => ⟨(), rfl, hsub [] (by kernel_rfl) rfl w1 c1⟩
end Go.Proofs.YtljogldcejcikaaGreat
