/- Models of functions, and that the code follows them. Written by deco.py. -/
import Derived.Test.YtljogldcejcikaaCmp4
namespace Go.Proofs.Ytljogldcejcikaa
open Go.RowKit

/-- complaint.disputed -/
def m_complaint_disputed (_N : Nat) (p0 : ApiBill) (p1 : ApiComplaint) : Option (ApiItem × Bool) :=
  (if ((decide (p1.Item < 0)) || (decide ((List.length p0.Items : Int) ≤ p1.Item))) = true then
    some (((ApiItem.mk 0 0 0 0 0), false))
  else
    ck ((0 : Int) ≤ p1.Item ∧ p1.Item < (List.length p0.Items : Int)) (
      some (((ix p0.Items p1.Item), ((decide ((ix p0.Items p1.Item).Kind = 2)) || (decide ((ix p0.Items p1.Item).Kind = 3)))))))
set_option maxRecDepth 20000 in
theorem m_complaint_disputed_ok (N : Nat) (w0 : World) (p0 : ApiBill) (p1 : ApiComplaint) (A_p01 : Option Addr) (n_p01 c_p01 : Nat) (hr_p01 : RdE w0 5 encApiItem A_p01 p0.Items) (hz_p01 : SW A_p01 n_p01 c_p01 (List.length p0.Items)) (r : ApiItem × Bool) (hr : m_complaint_disputed N p0 p1 = some r) :
    Calls Try.prog 24 [.agg #[.int .i64 p0.ID, .int .i64 p0.Household, .int .i64 p0.When.From, .int .i64 p0.When.To, .slice A_p01 n_p01 c_p01, .int .i64 p0.Total], .agg #[.int .i64 p1.Bill, .int .i64 p1.Item, .int .i64 p1.At, .int .i64 p1.Kind]].toArray w0 fun x w1 => ∃ u, x = .returned ((fun (r : ApiItem × Bool) (_u : Unit) => .tuple #[.agg #[.int .i64 r.1.Kind, .int .i64 r.1.Ref, .int .i64 r.1.Count, .int .i64 r.1.Price, .int .i64 r.1.Amount], .bool r.2]) r u) ∧ Hs w0 ((fun (_r : ApiItem × Bool) (_u : Unit) => []) r u) w1 := by
  refine calls_cm (n := 34) (R := fun r x w1 => ∃ u, x = .returned ((fun (r : ApiItem × Bool) (_u : Unit) => .tuple #[.agg #[.int .i64 r.1.Kind, .int .i64 r.1.Ref, .int .i64 r.1.Count, .int .i64 r.1.Price, .int .i64 r.1.Amount], .bool r.2]) r u) ∧ Hs w0 ((fun (_r : ApiItem × Bool) (_u : Unit) => []) r u) w1) Try.func24 rfl rfl (Nat.le_of_ble_eq_true rfl) ?_ r hr
  unfold m_complaint_disputed
  refine cm_seq ?_
  refine cm_region ?_
  refine lm_box 2 [.int .i64 _, .int .i64 _, .int .i64 _, .int .i64 _, .slice _ _ _, .int .i64 _] (by kernel_rfl) rfl ?_
  intro b5
  refine lm_box 3 [.int .i64 _, .int .i64 _, .int .i64 _, .int .i64 _] (by kernel_rfl) rfl ?_
  intro b6
  refine lm_alloc 4 [.int .i64 0, .int .i64 0, .int .i64 0, .int .i64 0, .int .i64 0] (v := .agg #[.int .i64 0, .int .i64 0, .int .i64 0, .int .i64 0, .int .i64 0]) (by kernel_rfl) (by kernel_rfl) rfl ?_
  intro b7
  refine lm_val 5 (by kernel_rfl) (fun w1 c1 => (op_assign (v := .bool false) rfl)) ?_
  refine lm_nil ?_
  refine xm_next ?_
  refine cm_seq ?_
  refine cm_seq ?_
  refine cm_cutE [(17, .bool ((decide (p1.Item < 0)) || (decide ((List.length p0.Items : Int) ≤ p1.Item))))] ?_ ?_
  · skip
    refine wq_val 7 (by kernel_rfl) (fun w1 c1 => (op_fieldL (m := 1) (k := 1) rfl (by kernel_rfl) rfl)) ?_
    refine wq_val 8 (by kernel_rfl) (fun w1 c1 => (op_load rfl (by kernel_rfl) (c1.cell 1 (u := .int .i64 _) rfl rfl))) ?_
    refine wq_dec 9 (by kernel_rfl) (fun w1 c1 => (op_lss rfl rfl)) (fun h8 => ?_) (fun h8 => ?_)
    · skip
      refine wq_val 10 (by kernel_rfl) (fun w1 c1 => (op_move (v := .bool true) rfl)) ?_
      refine wq_skip 11 (by kernel_rfl) ?_
      refine wq_skip 12 (by kernel_rfl) ?_
      refine wq_skip 13 (by kernel_rfl) ?_
      refine wq_skip 14 (by kernel_rfl) ?_
      refine wq_skip 15 (by kernel_rfl) ?_
      refine wq_skip 16 (by kernel_rfl) ?_
      refine wq_val 17 (by kernel_rfl) (fun w1 c1 => (op_pick_t (v := .bool true) rfl rfl)) ?_
      exact leaf_q (sub_out 11 _ rfl (by kernel_rfl) ⟨(congrArg Value.bool (by rw [decide_eq_true h8] <;> rfl)), trivial⟩)
    · skip
      refine wq_val 10 (by kernel_rfl) (fun w1 c1 => (op_move (v := .bool false) rfl)) ?_
      refine wq_val 11 (by kernel_rfl) (fun w1 c1 => (op_fieldL (m := 1) (k := 1) rfl (by kernel_rfl) rfl)) ?_
      refine wq_val 12 (by kernel_rfl) (fun w1 c1 => (op_load rfl (by kernel_rfl) (c1.cell 1 (u := .int .i64 _) rfl rfl))) ?_
      refine wq_val 13 (by kernel_rfl) (fun w1 c1 => (op_fieldL (m := 4) (k := 4) rfl (by kernel_rfl) rfl)) ?_
      refine wq_val 14 (by kernel_rfl) (fun w1 c1 => (op_load rfl (by kernel_rfl) (c1.cell 2 (u := .slice _ _ _) rfl rfl))) ?_
      refine wq_val 15 (by kernel_rfl) (fun w1 c1 => (op_lenN rfl (by kernel_rfl) hz_p01.2.2)) ?_
      refine wq_val 16 (by kernel_rfl) (fun w1 c1 => (op_geq rfl rfl)) ?_
      refine wq_val 17 (by kernel_rfl) (fun w1 c1 => (op_pick_f (v := .bool _) rfl rfl)) ?_
      exact leaf_q (sub_out 11 _ rfl (by kernel_rfl) ⟨(congrArg Value.bool (by rw [decide_eq_false h8] <;> rfl)), trivial⟩)
  refine xm_next ?_
  refine cm_condB (by kernel_rfl) rfl (fun h9 => ?_) (fun h9 => ?_)
  · skip
    refine cm_seq ?_
    refine cm_region ?_
    refine lm_val 18 (by kernel_rfl) (fun w1 c1 => (op_build (z := [.int .i64 0, .int .i64 0, .int .i64 0, .int .i64 0, .int .i64 0]) (tab := [(0, 1), (1, 1), (2, 1), (3, 1), (4, 1)]) (cs := [.int .i64 _, .int .i64 _, .int .i64 _, .int .i64 _, .int .i64 _]) [] (by kernel_rfl) (by kernel_rfl) fillOk_nil rfl)) ?_
    refine lm_storeA 0 [.int .i64 _, .int .i64 _, .int .i64 _, .int .i64 _, .int .i64 _] [_, _, _, _, _] (H' := [blkE _ _ [_, _, _, _, _], _, _]) (by kernel_rfl) rfl rfl (by kernel_rfl) rfl rfl (by kernel_rfl) rfl rfl ?_
    refine lm_val 5 (by kernel_rfl) (fun w1 c1 => (op_assign (v := .bool false) rfl)) ?_
    refine lm_nil ?_
    refine xm_next ?_
    refine cm_ret ?_
    refine xm_thenR ?_
    exact xm_retCT rfl (by kernel_rfl) (show _ = Value.pointer (some ⟨_, 0, none⟩) from rfl) (by kernel_rfl) (fun w1 c1 => c1.cells 0 (ds := [.int .i64 _, .int .i64 _, .int .i64 _, .int .i64 _, .int .i64 _]) rfl rfl) (by kernel_rfl) (show _ = Value.bool false from rfl) fun w1 c1 => ⟨(), rfl, hsub [] (by kernel_rfl) rfl w1 c1⟩
  · skip
    refine cm_skip ?_
    refine xm_next ?_
    refine cm_seq ?_
    refine cm_region ?_
    refine lm_val 19 (by kernel_rfl) (fun w1 c1 => (op_fieldL (m := 4) (k := 4) rfl (by kernel_rfl) rfl)) ?_
    refine lm_val 20 (by kernel_rfl) (fun w1 c1 => (op_load rfl (by kernel_rfl) (c1.cell 2 (u := .slice _ _ _) rfl rfl))) ?_
    refine lm_val 21 (by kernel_rfl) (fun w1 c1 => (op_fieldL (m := 1) (k := 1) rfl (by kernel_rfl) rfl)) ?_
    refine lm_val 22 (by kernel_rfl) (fun w1 c1 => (op_load rfl (by kernel_rfl) (c1.cell 1 (u := .int .i64 _) rfl rfl))) ?_
    refine lm_ck (fun h10 => ?_)
    refine lm_val 23 (by kernel_rfl) (fun w1 c1 => (op_indexA 5 rfl rfl (by kernel_rfl) ((hr_p01.old c1).addr h10.1 h10.2) hz_p01.2.2 h10.1 h10.2)) ?_
    refine lm_val 24 (by kernel_rfl) (fun w1 c1 => (op_loadR [.int .i64 ((ix p0.Items p1.Item).Kind), .int .i64 ((ix p0.Items p1.Item).Ref), .int .i64 ((ix p0.Items p1.Item).Count), .int .i64 ((ix p0.Items p1.Item).Price), .int .i64 ((ix p0.Items p1.Item).Amount)] rfl (by kernel_rfl) ((hr_p01.old c1).row h10.1 h10.2))) ?_
    refine lm_alloc 6 [.int .i64 0, .int .i64 0, .int .i64 0, .int .i64 0, .int .i64 0] (v := .agg #[.int .i64 0, .int .i64 0, .int .i64 0, .int .i64 0, .int .i64 0]) (by kernel_rfl) (by kernel_rfl) rfl ?_
    intro b11
    refine lm_storeA 0 [.int .i64 _, .int .i64 _, .int .i64 _, .int .i64 _, .int .i64 _] [_, _, _, _, _] (H' := [blkE _ _ [_, _, _, _, _], _, _, _]) (by kernel_rfl) rfl rfl (by kernel_rfl) rfl rfl (by kernel_rfl) rfl rfl ?_
    refine lm_nil ?_
    refine xm_next ?_
    refine cm_seq ?_
    refine cm_held (ξ := Unit) (fun u19 => [(4, .pointer (some ⟨b7, 0, none⟩)), (5, .bool ((decide ((ix p0.Items p1.Item).Kind = 2)) || (decide ((ix p0.Items p1.Item).Kind = 3))))]) (fun u19 => [blkE b7 55 [.int .i64 ((ix p0.Items p1.Item).Kind), .int .i64 ((ix p0.Items p1.Item).Ref), .int .i64 ((ix p0.Items p1.Item).Count), .int .i64 ((ix p0.Items p1.Item).Price), .int .i64 ((ix p0.Items p1.Item).Amount)]]) [blkE b11 55 [.int .i64 ((ix p0.Items p1.Item).Kind), .int .i64 ((ix p0.Items p1.Item).Ref), .int .i64 ((ix p0.Items p1.Item).Count), .int .i64 ((ix p0.Items p1.Item).Price), .int .i64 ((ix p0.Items p1.Item).Amount)], blkE b6 23 [.int .i64 p1.Bill, .int .i64 p1.Item, .int .i64 p1.At, .int .i64 p1.Kind], blkE b5 32 [.int .i64 p0.ID, .int .i64 p0.Household, .int .i64 p0.When.From, .int .i64 p0.When.To, .slice A_p01 n_p01 c_p01, .int .i64 p0.Total]] 11 (by kernel_rfl) (by rfl) (hsub [0, 2, 3] (by kernel_rfl) (by rfl)) ?_ ?_
    · intro w21 c22
      refine wh_take 0 25 rfl (by kernel_rfl) (by kernel_rfl) (fun w2 c2 => (op_loadR [.int .i64 _, .int .i64 _, .int .i64 _, .int .i64 _, .int .i64 _] rfl (by kernel_rfl) (c2.cells 0 rfl rfl))) (hsub [0, 2, 3] (by kernel_rfl) rfl _ c22) ?_
      refine wh_take 1 26 rfl (by kernel_rfl) (by kernel_rfl) (fun w2 c2 => (op_fieldL (m := 0) (k := 0) rfl (by kernel_rfl) rfl)) (hsub [0, 2, 3] (by kernel_rfl) rfl _ c22) ?_
      refine wh_take 2 27 rfl (by kernel_rfl) (by kernel_rfl) (fun w2 c2 => (op_load rfl (by kernel_rfl) (c2.cell 0 (u := .int .i64 _) rfl rfl))) (hsub [0, 2, 3] (by kernel_rfl) rfl _ c22) ?_
      refine wh_dec 3 28 rfl (by kernel_rfl) (by kernel_rfl) (fun w2 c2 => (op_eql rfl rfl)) (hsub [0, 2, 3] (by kernel_rfl) rfl _ c22) (fun h23 => ?_) (fun h23 => ?_)
      · skip
        refine wh_take 4 29 rfl (by kernel_rfl) (by kernel_rfl) (fun w2 c2 => (op_move (v := .bool true) rfl)) (hsub [0, 2, 3] (by kernel_rfl) rfl _ c22) ?_
        refine wh_skip 5 30 rfl (by kernel_rfl) (by kernel_rfl) (hsub [0, 2, 3] (by kernel_rfl) rfl _ c22) ?_
        refine wh_skip 6 31 rfl (by kernel_rfl) (by kernel_rfl) (hsub [0, 2, 3] (by kernel_rfl) rfl _ c22) ?_
        refine wh_skip 7 32 rfl (by kernel_rfl) (by kernel_rfl) (hsub [0, 2, 3] (by kernel_rfl) rfl _ c22) ?_
        refine wh_take 8 33 rfl (by kernel_rfl) (by kernel_rfl) (fun w2 c2 => (op_pick_t (v := .bool true) rfl rfl)) (hsub [0, 2, 3] (by kernel_rfl) rfl _ c22) ?_
        refine wh_ready [9] (by kernel_rfl) rfl ⟨?_, trivial⟩
        refine ws_storeA 1 [.int .i64 _, .int .i64 _, .int .i64 _, .int .i64 _, .int .i64 _] [_, _, _, _, _] rfl (by kernel_rfl) rfl rfl (by kernel_rfl) rfl rfl (by kernel_rfl) rfl (H' := [_, blkE _ _ [_, _, _, _, _], _, _]) rfl c22 ?_
        intro w24 c25
        refine ⟨(hsub [0, 2, 3] (by kernel_rfl) rfl _ c25), ?_⟩
        refine wh_take 10 5 rfl (by kernel_rfl) (by kernel_rfl) (fun w2 c2 => (op_assign (v := .bool true) rfl)) (hsub [0, 2, 3] (by kernel_rfl) rfl _ c25) ?_
        exact wh_done () (by kernel_rfl) (sub_cons (by kernel_rfl) rfl (sub_cons (by kernel_rfl) (congrArg Value.bool (by rw [decide_eq_true h23] <;> rfl)) sub_nil)) (hsub [1] (by kernel_rfl) rfl _ c25)
      · skip
        refine wh_take 4 29 rfl (by kernel_rfl) (by kernel_rfl) (fun w2 c2 => (op_move (v := .bool false) rfl)) (hsub [0, 2, 3] (by kernel_rfl) rfl _ c22) ?_
        refine wh_take 5 30 rfl (by kernel_rfl) (by kernel_rfl) (fun w2 c2 => (op_fieldL (m := 0) (k := 0) rfl (by kernel_rfl) rfl)) (hsub [0, 2, 3] (by kernel_rfl) rfl _ c22) ?_
        refine wh_take 6 31 rfl (by kernel_rfl) (by kernel_rfl) (fun w2 c2 => (op_load rfl (by kernel_rfl) (c2.cell 0 (u := .int .i64 _) rfl rfl))) (hsub [0, 2, 3] (by kernel_rfl) rfl _ c22) ?_
        refine wh_take 7 32 rfl (by kernel_rfl) (by kernel_rfl) (fun w2 c2 => (op_eql rfl rfl)) (hsub [0, 2, 3] (by kernel_rfl) rfl _ c22) ?_
        refine wh_take 8 33 rfl (by kernel_rfl) (by kernel_rfl) (fun w2 c2 => (op_pick_f (v := .bool _) rfl rfl)) (hsub [0, 2, 3] (by kernel_rfl) rfl _ c22) ?_
        refine wh_ready [9] (by kernel_rfl) rfl ⟨?_, trivial⟩
        refine ws_storeA 1 [.int .i64 _, .int .i64 _, .int .i64 _, .int .i64 _, .int .i64 _] [_, _, _, _, _] rfl (by kernel_rfl) rfl rfl (by kernel_rfl) rfl rfl (by kernel_rfl) rfl (H' := [_, blkE _ _ [_, _, _, _, _], _, _]) rfl c22 ?_
        intro w26 c27
        refine ⟨(hsub [0, 2, 3] (by kernel_rfl) rfl _ c27), ?_⟩
        refine wh_take 10 5 rfl (by kernel_rfl) (by kernel_rfl) (fun w2 c2 => (op_assign (v := .bool _) rfl)) (hsub [0, 2, 3] (by kernel_rfl) rfl _ c27) ?_
        exact wh_done () (by kernel_rfl) (sub_cons (by kernel_rfl) rfl (sub_cons (by kernel_rfl) (congrArg Value.bool (by rw [decide_eq_false h23] <;> rfl)) sub_nil)) (hsub [1] (by kernel_rfl) rfl _ c27)
    intro u19
    refine xm_next ?_
    refine cm_ret ?_
    exact xm_retCT rfl (by kernel_rfl) (show _ = Value.pointer (some ⟨_, 0, none⟩) from rfl) (by kernel_rfl) (fun w1 c1 => c1.cells 0 (ds := [.int .i64 _, .int .i64 _, .int .i64 _, .int .i64 _, .int .i64 _]) rfl rfl) (by kernel_rfl) (show _ = Value.bool _ from rfl) fun w1 c1 => ⟨(), rfl, hsub [] (by kernel_rfl) rfl w1 c1⟩
/-- bill.money -/
def m_bill_money (_N : Nat) (p0 : Int) : Option (Bool) :=
  some (((decide (-1000000000000 ≤ p0)) && (decide (p0 ≤ 1000000000000))))
set_option maxRecDepth 20000 in
theorem m_bill_money_ok (N : Nat) (w0 : World) (p0 : Int)   (r : Bool) (hr : m_bill_money N p0 = some r) :
    Calls Try.prog 37 [.int .i64 p0].toArray w0 fun x w1 => ∃ u, x = .returned ((fun (r : Bool) (_u : Unit) => .bool r) r u) ∧ Hs w0 ((fun (_r : Bool) (_u : Unit) => []) r u) w1 := by
  refine calls_cm (n := 9) (R := fun r x w1 => ∃ u, x = .returned ((fun (r : Bool) (_u : Unit) => .bool r) r u) ∧ Hs w0 ((fun (_r : Bool) (_u : Unit) => []) r u) w1) Try.func37 rfl rfl (Nat.le_of_ble_eq_true rfl) ?_ r hr
  unfold m_bill_money
  refine cm_seq ?_
  refine cm_region ?_
  refine lm_val 2 (by kernel_rfl) (fun w1 c1 => (op_assign (v := .bool false) rfl)) ?_
  refine lm_nil ?_
  refine xm_next ?_
  refine cm_seq ?_
  refine cm_cutE [(2, .bool ((decide (-1000000000000 ≤ p0)) && (decide (p0 ≤ 1000000000000))))] ?_ ?_
  · skip
    refine wq_val 3 (by kernel_rfl) (fun w1 c1 => (op_move (v := .int .i64 _) rfl)) ?_
    refine wq_dec 4 (by kernel_rfl) (fun w1 c1 => (op_geq rfl rfl)) (fun h5 => ?_) (fun h5 => ?_)
    · skip
      refine wq_val 5 (by kernel_rfl) (fun w1 c1 => (op_move (v := .bool true) rfl)) ?_
      refine wq_val 6 (by kernel_rfl) (fun w1 c1 => (op_move (v := .int .i64 _) rfl)) ?_
      refine wq_val 7 (by kernel_rfl) (fun w1 c1 => (op_leq rfl rfl)) ?_
      refine wq_val 8 (by kernel_rfl) (fun w1 c1 => (op_pick_t (v := .bool _) rfl rfl)) ?_
      refine wq_val 2 (by kernel_rfl) (fun w1 c1 => (op_assign (v := .bool _) rfl)) ?_
      exact leaf_q (sub_out 7 _ rfl (by kernel_rfl) ⟨(congrArg Value.bool (by rw [decide_eq_true h5] <;> rfl)), trivial⟩)
    · skip
      refine wq_val 5 (by kernel_rfl) (fun w1 c1 => (op_move (v := .bool false) rfl)) ?_
      refine wq_skip 6 (by kernel_rfl) ?_
      refine wq_skip 7 (by kernel_rfl) ?_
      refine wq_val 8 (by kernel_rfl) (fun w1 c1 => (op_pick_f (v := .bool false) rfl rfl)) ?_
      refine wq_val 2 (by kernel_rfl) (fun w1 c1 => (op_assign (v := .bool false) rfl)) ?_
      exact leaf_q (sub_out 7 _ rfl (by kernel_rfl) ⟨(congrArg Value.bool (by rw [decide_eq_false h5] <;> rfl)), trivial⟩)
  refine xm_next ?_
  refine cm_ret ?_
  exact xm_retT rfl (by kernel_rfl) (show _ = Value.bool _ from rfl) fun w1 c1 => ⟨(), rfl, hsub [] (by kernel_rfl) rfl w1 c1⟩
/-- bill.Credit$1 -/
def m_bill_Credit_1 (N : Nat) (p0 : ApiItem) : Option (Bool) :=
  Option.bind (m_bill_money N p0.Amount) fun r6 => some ((!r6))
set_option maxRecDepth 20000 in
theorem m_bill_Credit_1_ok (N : Nat) (w0 : World) (p0 : ApiItem)   (r : Bool) (hr : m_bill_Credit_1 N p0 = some r) :
    Calls Try.prog 38 [.agg #[.int .i64 p0.Kind, .int .i64 p0.Ref, .int .i64 p0.Count, .int .i64 p0.Price, .int .i64 p0.Amount]].toArray w0 fun x w1 => ∃ u, x = .returned ((fun (r : Bool) (_u : Unit) => .bool r) r u) ∧ Hs w0 ((fun (_r : Bool) (_u : Unit) => []) r u) w1 := by
  refine calls_cm (n := 7) (R := fun r x w1 => ∃ u, x = .returned ((fun (r : Bool) (_u : Unit) => .bool r) r u) ∧ Hs w0 ((fun (_r : Bool) (_u : Unit) => []) r u) w1) Try.func38 rfl rfl (Nat.le_of_ble_eq_true rfl) ?_ r hr
  unfold m_bill_Credit_1
  refine cm_seq ?_
  refine cm_region ?_
  refine lm_box 1 [.int .i64 _, .int .i64 _, .int .i64 _, .int .i64 _, .int .i64 _] (by kernel_rfl) rfl ?_
  intro b5
  refine lm_val 2 (by kernel_rfl) (fun w1 c1 => (op_assign (v := .bool false) rfl)) ?_
  refine lm_nil ?_
  refine xm_next ?_
  refine cm_seq ?_
  refine cm_region ?_
  refine lm_val 3 (by kernel_rfl) (fun w1 c1 => (op_fieldL (m := 4) (k := 4) rfl (by kernel_rfl) rfl)) ?_
  refine lm_val 4 (by kernel_rfl) (fun w1 c1 => (op_load rfl (by kernel_rfl) (c1.cell 0 (u := .int .i64 _) rfl rfl))) ?_
  refine lm_call 5 (V := (fun (r : Bool) (_u : Unit) => .bool r)) (HR := (fun (_r : Bool) (_u : Unit) => [])) (by kernel_rfl) (fun w1 => op_call (by kernel_rfl)) (fun r1 hr1 w1 c1 => m_bill_money_ok N w1 p0.Amount  r1 hr1) ?_
  intro r6 u7
  refine lm_val 6 (by kernel_rfl) (fun w1 c1 => (op_not rfl)) ?_
  refine lm_val 2 (by kernel_rfl) (fun w1 c1 => (op_assign (v := .bool _) rfl)) ?_
  refine lm_nil ?_
  refine xm_next ?_
  refine cm_ret ?_
  exact xm_retT rfl (by kernel_rfl) (show _ = Value.bool _ from rfl) fun w1 c1 => ⟨(), rfl, hsub [] (by kernel_rfl) rfl w1 c1⟩
/-- slices.IndexFunc -/
def m_slices_IndexFunc_bill_Credit_1 (N : Nat) (p0 : (List ApiItem)) : Option (Int) :=
  (andThen
    (loopM (fun (s47 : Int) =>
      (if s47 < (List.length p0 : Int) then
        ck ((0 : Int) ≤ s47 ∧ s47 < (List.length p0 : Int)) (
          Option.bind (m_bill_Credit_1 N (ix p0 s47)) fun r51 => (if r51 = true then
            some (.done (.done (s47)))
          else
            ck (I64 (s47 + (1 : Int))) (
              some (.next (s47 + (1 : Int))))))
      else
        some (.done (.next ())))) N (0 : Int))
  fun (_s29 : Unit) =>
    some ((-1 : Int)))
set_option maxRecDepth 20000 in
theorem m_slices_IndexFunc_bill_Credit_1_ok (N : Nat) (w0 : World) (p0 : (List ApiItem)) (A_p0 : Option Addr) (n_p0 c_p0 : Nat) (hr_p0 : RdE w0 5 encApiItem A_p0 p0) (hz_p0 : SW A_p0 n_p0 c_p0 (List.length p0)) (r : Int) (hr : m_slices_IndexFunc_bill_Credit_1 N p0 = some r) :
    Calls Try.prog 54 [.slice A_p0 n_p0 c_p0, .func (.func 38) #[] #[]].toArray w0 fun x w1 => ∃ u, x = .returned ((fun (r : Int) (_u : Unit) => .int .i64 r) r u) ∧ Hs w0 ((fun (_r : Int) (_u : Unit) => []) r u) w1 := by
  refine calls_cm (n := 19) (R := fun r x w1 => ∃ u, x = .returned ((fun (r : Int) (_u : Unit) => .int .i64 r) r u) ∧ Hs w0 ((fun (_r : Int) (_u : Unit) => []) r u) w1) Try.func54 rfl rfl (Nat.le_of_ble_eq_true rfl) ?_ r hr
  unfold m_slices_IndexFunc_bill_Credit_1
  refine cm_seq ?_
  refine cm_region ?_
  refine lm_val 4 (by kernel_rfl) (fun w1 c1 => (op_assign (v := .int .i64 _) rfl)) ?_
  refine lm_nil ?_
  refine xm_next ?_
  refine cm_join (σ := Unit) (ξ := Unit) (fun s29 u30 => []) (fun s29 u30 => []) ?_ ?_
  · skip
    refine cm_seq ?_
    refine cm_region ?_
    refine lm_val 6 (by kernel_rfl) (fun w1 c1 => (op_move (v := .slice _ _ _) rfl)) ?_
    refine lm_val 7 (by kernel_rfl) (fun w1 c1 => (op_lenN rfl (by kernel_rfl) hz_p0.2.2)) ?_
    refine lm_val 8 (by kernel_rfl) (fun w1 c1 => (op_move (v := .int .i64 _) rfl)) ?_
    refine lm_nil ?_
    refine xm_next ?_
    refine cm_block ?_
    refine cm_loop (σ := Int) (ξ := Unit) (fun s47 u48 => [(0, .slice A_p0 n_p0 c_p0), (1, .func (.func 38) #[] #[]), (7, .int .i64 (List.length p0 : Int)), (8, .int .i64 s47)]) (fun s47 u48 => []) () ?_ ?_ ?_
    · exact (sub_cons (by kernel_rfl) rfl (sub_cons (by kernel_rfl) rfl (sub_cons (by kernel_rfl) rfl (sub_cons (by kernel_rfl) rfl sub_nil))))
    · exact hsub [] (by kernel_rfl) rfl
    intro s47 u48
    refine cm_seq ?_
    refine cm_region ?_
    refine lm_val 9 (by kernel_rfl) (fun w1 c1 => (op_lss rfl rfl)) ?_
    refine lm_nil ?_
    refine xm_next ?_
    refine cm_seq ?_
    refine cm_cond (by kernel_rfl) rfl (fun h49 => ?_) (fun h49 => ?_)
    · skip
      refine cm_skip ?_
      refine xm_next ?_
      refine cm_seq ?_
      refine cm_block ?_
      refine cm_seq ?_
      refine cm_region ?_
      refine lm_val 10 (by kernel_rfl) (fun w1 c1 => (op_move (v := .int .i64 _) rfl)) ?_
      refine lm_val 5 (by kernel_rfl) (fun w1 c1 => (op_assign (v := .int .i64 _) rfl)) ?_
      refine lm_nil ?_
      refine xm_next ?_
      refine cm_seq ?_
      refine cm_region ?_
      refine lm_val 11 (by kernel_rfl) (fun w1 c1 => (op_move (v := .func _ _ _) rfl)) ?_
      refine lm_val 12 (by kernel_rfl) (fun w1 c1 => (op_move (v := .slice _ _ _) rfl)) ?_
      refine lm_val 13 (by kernel_rfl) (fun w1 c1 => (op_move (v := .int .i64 _) rfl)) ?_
      refine lm_ck (fun h50 => ?_)
      refine lm_val 14 (by kernel_rfl) (fun w1 c1 => (op_indexA 5 rfl rfl (by kernel_rfl) ((hr_p0.old c1).addr h50.1 h50.2) hz_p0.2.2 h50.1 h50.2)) ?_
      refine lm_val 15 (by kernel_rfl) (fun w1 c1 => (op_loadR [.int .i64 ((ix p0 s47).Kind), .int .i64 ((ix p0 s47).Ref), .int .i64 ((ix p0 s47).Count), .int .i64 ((ix p0 s47).Price), .int .i64 ((ix p0 s47).Amount)] rfl (by kernel_rfl) ((hr_p0.old c1).row h50.1 h50.2))) ?_
      refine lm_call 16 (V := (fun (r : Bool) (_u : Unit) => .bool r)) (HR := (fun (_r : Bool) (_u : Unit) => [])) (by kernel_rfl) (fun w1 => op_callv rfl (by kernel_rfl)) (fun r1 hr1 w1 c1 => m_bill_Credit_1_ok N w1 (ix p0 s47)  r1 hr1) ?_
      intro r51 u52
      refine lm_nil ?_
      refine xm_next ?_
      refine cm_condB (by kernel_rfl) rfl (fun h53 => ?_) (fun h53 => ?_)
      · skip
        refine cm_seq ?_
        refine cm_region ?_
        refine lm_val 17 (by kernel_rfl) (fun w1 c1 => (op_move (v := .int .i64 _) rfl)) ?_
        refine lm_val 4 (by kernel_rfl) (fun w1 c1 => (op_assign (v := .int .i64 _) rfl)) ?_
        refine lm_nil ?_
        refine xm_next ?_
        refine cm_ret ?_
        refine xm_inR ?_
        refine xm_thenR ?_
        refine xm_lret ?_
        refine xm_inR ?_
        refine xm_lret ?_
        exact xm_retT rfl (by kernel_rfl) (show _ = Value.int .i64 _ from rfl) fun w1 c1 => ⟨(), rfl, hsub [] (by kernel_rfl) rfl w1 c1⟩
      · skip
        refine cm_skip ?_
        refine xm_inN ?_
        refine xm_next ?_
        refine cm_region ?_
        refine lm_ck (fun h54 => ?_)
        refine lm_val 18 (by kernel_rfl) (fun w1 c1 => (op_add rfl rfl h54)) ?_
        refine lm_val 8 (by kernel_rfl) (fun w1 c1 => (op_move (v := .int .i64 _) rfl)) ?_
        refine lm_nil ?_
        exact xm_lnext () (sub_cons (by kernel_rfl) rfl (sub_cons (by kernel_rfl) rfl (sub_cons (by kernel_rfl) rfl (sub_cons (by kernel_rfl) rfl sub_nil)))) (hsub [] (by kernel_rfl) rfl)
    · skip
      refine cm_exit ?_
      refine xm_thenE ?_
      refine xm_lexit ?_
      refine xm_here ?_
      exact xm_lnext () sub_nil (hsub [] (by kernel_rfl) rfl)
  intro s29 u30
  refine cm_seq ?_
  refine cm_region ?_
  refine lm_val 4 (by kernel_rfl) (fun w1 c1 => (op_assign (v := .int .i64 _) rfl)) ?_
  refine lm_nil ?_
  refine xm_next ?_
  refine cm_ret ?_
  exact xm_retT rfl (by kernel_rfl) (show _ = Value.int .i64 _ from rfl) fun w1 c1 => ⟨(), rfl, hsub [] (by kernel_rfl) rfl w1 c1⟩
/-- slices.ContainsFunc -/
def m_slices_ContainsFunc_bill_Credit_1 (N : Nat) (p0 : (List ApiItem)) : Option (Bool) :=
  Option.bind (m_slices_IndexFunc_bill_Credit_1 N p0) fun r5 => some ((decide (0 ≤ r5)))
set_option maxRecDepth 20000 in
theorem m_slices_ContainsFunc_bill_Credit_1_ok (N : Nat) (w0 : World) (p0 : (List ApiItem)) (A_p0 : Option Addr) (n_p0 c_p0 : Nat) (hr_p0 : RdE w0 5 encApiItem A_p0 p0) (hz_p0 : SW A_p0 n_p0 c_p0 (List.length p0)) (r : Bool) (hr : m_slices_ContainsFunc_bill_Credit_1 N p0 = some r) :
    Calls Try.prog 35 [.slice A_p0 n_p0 c_p0, .func (.func 38) #[] #[]].toArray w0 fun x w1 => ∃ u, x = .returned ((fun (r : Bool) (_u : Unit) => .bool r) r u) ∧ Hs w0 ((fun (_r : Bool) (_u : Unit) => []) r u) w1 := by
  refine calls_cm (n := 9) (R := fun r x w1 => ∃ u, x = .returned ((fun (r : Bool) (_u : Unit) => .bool r) r u) ∧ Hs w0 ((fun (_r : Bool) (_u : Unit) => []) r u) w1) Try.func35 rfl rfl (Nat.le_of_ble_eq_true rfl) ?_ r hr
  unfold m_slices_ContainsFunc_bill_Credit_1
  refine cm_seq ?_
  refine cm_region ?_
  refine lm_val 4 (by kernel_rfl) (fun w1 c1 => (op_assign (v := .bool false) rfl)) ?_
  refine lm_nil ?_
  refine xm_next ?_
  refine cm_seq ?_
  refine cm_region ?_
  refine lm_val 5 (by kernel_rfl) (fun w1 c1 => (op_move (v := .slice _ _ _) rfl)) ?_
  refine lm_val 6 (by kernel_rfl) (fun w1 c1 => (op_move (v := .func _ _ _) rfl)) ?_
  refine lm_call 7 (V := (fun (r : Int) (_u : Unit) => .int .i64 r)) (HR := (fun (_r : Int) (_u : Unit) => [])) (by kernel_rfl) (fun w1 => op_call (by kernel_rfl)) (fun r1 hr1 w1 c1 => m_slices_IndexFunc_bill_Credit_1_ok N w1 p0 A_p0 n_p0 c_p0 (hr_p0.old c1) hz_p0 r1 hr1) ?_
  intro r5 u6
  refine lm_val 8 (by kernel_rfl) (fun w1 c1 => (op_geq rfl rfl)) ?_
  refine lm_val 4 (by kernel_rfl) (fun w1 c1 => (op_assign (v := .bool _) rfl)) ?_
  refine lm_nil ?_
  refine xm_next ?_
  refine cm_ret ?_
  exact xm_retT rfl (by kernel_rfl) (show _ = Value.bool _ from rfl) fun w1 c1 => ⟨(), rfl, hsub [] (by kernel_rfl) rfl w1 c1⟩
/-- bill.account -/
def m_bill_account (N : Nat) (p0 : (List ApiItem)) (p1 : Int) : Option (Int × Int × Bool) :=
  (andThen
    (loopM (fun (s177 : Int × Int × Bool × Int) =>
      (if s177.2.2.2 < (List.length p0 : Int) then
        (andThen
          (ck ((0 : Int) ≤ s177.2.2.2 ∧ s177.2.2.2 < (List.length p0 : Int)) (
            (if (ix p0 s177.2.2.2).Ref ≠ p1 then
              some (.next (s177.1, s177.2.1, s177.2.2.1))
            else
              (andThen
                (if (ix p0 s177.2.2.2).Kind = 2 then
                  some (.next true)
                else
                  (if (ix p0 s177.2.2.2).Kind = 3 then
                    some (.next s177.2.2.1)
                  else
                    (if (ix p0 s177.2.2.2).Kind = 4 then
                      (Option.map Step.done
                        (ck (I64 (s177.2.1 - ((ix p0 s177.2.2.2).Amount))) (
                          some (.next (s177.1, (s177.2.1 - ((ix p0 s177.2.2.2).Amount)), s177.2.2.1)))))
                    else
                      some (.done (.next (s177.1, s177.2.1, s177.2.2.1))))))
              fun (s203 : Bool) =>
                ck (I64 (s177.1 + ((ix p0 s177.2.2.2).Amount))) (
                  some (.next ((s177.1 + ((ix p0 s177.2.2.2).Amount)), s177.2.1, s203)))))))
        fun (s194 : Int × Int × Bool) =>
          ck (I64 (s177.2.2.2 + (1 : Int))) (
            some (.next (s194.1, s194.2.1, s194.2.2, (s177.2.2.2 + (1 : Int))))))
      else
        some (.done (.next (s177.1, s177.2.1, s177.2.2.1))))) N ((0 : Int), (0 : Int), false, (0 : Int)))
  fun (s107 : Int × Int × Bool) =>
    some ((s107.1, s107.2.1, s107.2.2)))
set_option maxHeartbeats 2000000 in
set_option maxRecDepth 20000 in
theorem m_bill_account_ok (N : Nat) (w0 : World) (p0 : (List ApiItem)) (p1 : Int) (A_p0 : Option Addr) (n_p0 c_p0 : Nat) (hr_p0 : RdE w0 5 encApiItem A_p0 p0) (hz_p0 : SW A_p0 n_p0 c_p0 (List.length p0)) (r : Int × Int × Bool) (hr : m_bill_account N p0 p1 = some r) :
    Calls Try.prog 39 [.slice A_p0 n_p0 c_p0, .int .i64 p1].toArray w0 fun x w1 => ∃ u, x = .returned ((fun (r : Int × Int × Bool) (_u : Unit) => .tuple #[.int .i64 r.1, .int .i64 r.2.1, .bool r.2.2]) r u) ∧ Hs w0 ((fun (_r : Int × Int × Bool) (_u : Unit) => []) r u) w1 := by
  refine calls_cm (n := 39) (R := fun r x w1 => ∃ u, x = .returned ((fun (r : Int × Int × Bool) (_u : Unit) => .tuple #[.int .i64 r.1, .int .i64 r.2.1, .bool r.2.2]) r u) ∧ Hs w0 ((fun (_r : Int × Int × Bool) (_u : Unit) => []) r u) w1) Try.func39 rfl rfl (Nat.le_of_ble_eq_true rfl) ?_ r hr
  unfold m_bill_account
  refine cm_seq ?_
  refine cm_region ?_
  refine lm_val 4 (by kernel_rfl) (fun w1 c1 => (op_assign (v := .int .i64 _) rfl)) ?_
  refine lm_val 5 (by kernel_rfl) (fun w1 c1 => (op_assign (v := .int .i64 _) rfl)) ?_
  refine lm_val 6 (by kernel_rfl) (fun w1 c1 => (op_assign (v := .bool false) rfl)) ?_
  refine lm_nil ?_
  refine xm_next ?_
  refine cm_join (σ := Int × Int × Bool) (ξ := Unit) (fun s107 u108 => [(4, .int .i64 s107.1), (5, .int .i64 s107.2.1), (6, .bool s107.2.2)]) (fun s107 u108 => []) ?_ ?_
  · skip
    refine cm_seq ?_
    refine cm_region ?_
    refine lm_val 9 (by kernel_rfl) (fun w1 c1 => (op_move (v := .slice _ _ _) rfl)) ?_
    refine lm_val 10 (by kernel_rfl) (fun w1 c1 => (op_lenN rfl (by kernel_rfl) hz_p0.2.2)) ?_
    refine lm_val 11 (by kernel_rfl) (fun w1 c1 => (op_move (v := .int .i64 _) rfl)) ?_
    refine lm_nil ?_
    refine xm_next ?_
    refine cm_block ?_
    refine cm_loop (σ := Int × Int × Bool × Int) (ξ := Unit) (fun s177 u178 => [(1, .int .i64 p1), (4, .int .i64 s177.1), (5, .int .i64 s177.2.1), (6, .bool s177.2.2.1), (9, .slice A_p0 n_p0 c_p0), (10, .int .i64 (List.length p0 : Int)), (11, .int .i64 s177.2.2.2)]) (fun s177 u178 => []) () ?_ ?_ ?_
    · exact (sub_cons (by kernel_rfl) rfl (sub_cons (by kernel_rfl) rfl (sub_cons (by kernel_rfl) rfl (sub_cons (by kernel_rfl) rfl (sub_cons (by kernel_rfl) rfl (sub_cons (by kernel_rfl) rfl (sub_cons (by kernel_rfl) rfl sub_nil)))))))
    · exact hsub [] (by kernel_rfl) rfl
    intro s177 u178
    refine cm_seq ?_
    refine cm_region ?_
    refine lm_val 12 (by kernel_rfl) (fun w1 c1 => (op_lss rfl rfl)) ?_
    refine lm_nil ?_
    refine xm_next ?_
    refine cm_seq ?_
    refine cm_cond (by kernel_rfl) rfl (fun h179 => ?_) (fun h179 => ?_)
    · skip
      refine cm_skip ?_
      refine xm_next ?_
      refine cm_join (σ := Int × Int × Bool) (ξ := Unit) (fun s194 u195 => [(1, .int .i64 p1), (4, .int .i64 s194.1), (5, .int .i64 s194.2.1), (6, .bool s194.2.2), (9, .slice A_p0 n_p0 c_p0), (10, .int .i64 (List.length p0 : Int)), (11, .int .i64 s177.2.2.2)]) (fun s194 u195 => []) ?_ ?_
      · skip
        refine cm_block ?_
        refine cm_seq ?_
        refine cm_region ?_
        refine lm_ck (fun h196 => ?_)
        refine lm_val 13 (by kernel_rfl) (fun w1 c1 => (op_indexA 5 rfl rfl (by kernel_rfl) ((hr_p0.old c1).addr h196.1 h196.2) hz_p0.2.2 h196.1 h196.2)) ?_
        refine lm_val 14 (by kernel_rfl) (fun w1 c1 => (op_loadR [.int .i64 ((ix p0 s177.2.2.2).Kind), .int .i64 ((ix p0 s177.2.2.2).Ref), .int .i64 ((ix p0 s177.2.2.2).Count), .int .i64 ((ix p0 s177.2.2.2).Price), .int .i64 ((ix p0 s177.2.2.2).Amount)] rfl (by kernel_rfl) ((hr_p0.old c1).row h196.1 h196.2))) ?_
        refine lm_alloc 8 [.int .i64 0, .int .i64 0, .int .i64 0, .int .i64 0, .int .i64 0] (v := .agg #[.int .i64 0, .int .i64 0, .int .i64 0, .int .i64 0, .int .i64 0]) (by kernel_rfl) (by kernel_rfl) rfl ?_
        intro b197
        refine lm_storeA 0 [.int .i64 _, .int .i64 _, .int .i64 _, .int .i64 _, .int .i64 _] [_, _, _, _, _] (H' := [blkE _ _ [_, _, _, _, _]]) (by kernel_rfl) rfl rfl (by kernel_rfl) rfl rfl (by kernel_rfl) rfl rfl ?_
        refine lm_nil ?_
        refine xm_next ?_
        refine cm_seq ?_
        refine cm_seq ?_
        refine cm_region ?_
        refine lm_val 15 (by kernel_rfl) (fun w1 c1 => (op_fieldL (m := 1) (k := 1) rfl (by kernel_rfl) rfl)) ?_
        refine lm_val 16 (by kernel_rfl) (fun w1 c1 => (op_load rfl (by kernel_rfl) (c1.cell 0 (u := .int .i64 _) rfl rfl))) ?_
        refine lm_val 17 (by kernel_rfl) (fun w1 c1 => (op_move (v := .int .i64 _) rfl)) ?_
        refine lm_val 18 (by kernel_rfl) (fun w1 c1 => (op_neq rfl rfl)) ?_
        refine lm_nil ?_
        refine xm_next ?_
        refine cm_cond (by kernel_rfl) rfl (fun h198 => ?_) (fun h198 => ?_)
        · skip
          refine cm_exit ?_
          refine xm_thenE ?_
          refine xm_here ?_
          exact xm_lnext () (sub_cons (by kernel_rfl) rfl (sub_cons (by kernel_rfl) rfl (sub_cons (by kernel_rfl) rfl (sub_cons (by kernel_rfl) rfl (sub_cons (by kernel_rfl) rfl (sub_cons (by kernel_rfl) rfl (sub_cons (by kernel_rfl) rfl sub_nil))))))) (hsub [] (by kernel_rfl) rfl)
        · skip
          refine cm_skip ?_
          refine xm_next ?_
          refine cm_seq ?_
          refine cm_region ?_
          refine lm_val 19 (by kernel_rfl) (fun w1 c1 => (op_fieldL (m := 0) (k := 0) rfl (by kernel_rfl) rfl)) ?_
          refine lm_val 20 (by kernel_rfl) (fun w1 c1 => (op_load rfl (by kernel_rfl) (c1.cell 0 (u := .int .i64 _) rfl rfl))) ?_
          refine lm_nil ?_
          refine xm_next ?_
          refine cm_block ?_
          refine cm_seq ?_
          refine cm_block ?_
          refine cm_join (σ := Bool) (ξ := Unit) (fun s203 u204 => [(1, .int .i64 p1), (4, .int .i64 s177.1), (5, .int .i64 s177.2.1), (6, .bool s203), (8, .pointer (some ⟨b197, 0, none⟩)), (9, .slice A_p0 n_p0 c_p0), (10, .int .i64 (List.length p0 : Int)), (11, .int .i64 s177.2.2.2)]) (fun s203 u204 => [blkE b197 55 [.int .i64 ((ix p0 s177.2.2.2).Kind), .int .i64 ((ix p0 s177.2.2.2).Ref), .int .i64 ((ix p0 s177.2.2.2).Count), .int .i64 ((ix p0 s177.2.2.2).Price), .int .i64 ((ix p0 s177.2.2.2).Amount)]]) ?_ ?_
          · skip
            refine cm_block ?_
            refine cm_seq ?_
            refine cm_block ?_
            refine cm_seq ?_
            refine cm_seq ?_
            refine cm_seq ?_
            refine cm_region ?_
            refine lm_val 22 (by kernel_rfl) (fun w1 c1 => (op_eql rfl rfl)) ?_
            refine lm_val 21 (by kernel_rfl) (fun w1 c1 => (op_assign (v := .bool _) rfl)) ?_
            refine lm_nil ?_
            refine xm_next ?_
            refine cm_cond (by kernel_rfl) rfl (fun h205 => ?_) (fun h205 => ?_)
            · skip
              refine cm_exit ?_
              refine xm_thenE ?_
              refine xm_thenE ?_
              refine xm_here ?_
              refine xm_next ?_
              refine cm_region ?_
              refine lm_val 6 (by kernel_rfl) (fun w1 c1 => (op_assign (v := .bool true) rfl)) ?_
              refine lm_nil ?_
              refine xm_inN ?_
              exact xm_lnext () (sub_cons (by kernel_rfl) rfl (sub_cons (by kernel_rfl) rfl (sub_cons (by kernel_rfl) rfl (sub_cons (by kernel_rfl) rfl (sub_cons (by kernel_rfl) rfl (sub_cons (by kernel_rfl) rfl (sub_cons (by kernel_rfl) rfl (sub_cons (by kernel_rfl) rfl sub_nil)))))))) (hsub [0] (by kernel_rfl) rfl)
            · skip
              refine cm_skip ?_
              refine xm_next ?_
              refine cm_seq ?_
              refine cm_seq ?_
              refine cm_region ?_
              refine lm_val 24 (by kernel_rfl) (fun w1 c1 => (op_eql rfl rfl)) ?_
              refine lm_val 23 (by kernel_rfl) (fun w1 c1 => (op_assign (v := .bool _) rfl)) ?_
              refine lm_nil ?_
              refine xm_next ?_
              refine cm_cond (by kernel_rfl) rfl (fun h206 => ?_) (fun h206 => ?_)
              · skip
                refine cm_exit ?_
                refine xm_thenE ?_
                refine xm_thenE ?_
                refine xm_pass (by kernel_rfl) ?_
                refine xm_thenE ?_
                refine xm_here ?_
                exact xm_lnext () (sub_cons (by kernel_rfl) rfl (sub_cons (by kernel_rfl) rfl (sub_cons (by kernel_rfl) rfl (sub_cons (by kernel_rfl) rfl (sub_cons (by kernel_rfl) rfl (sub_cons (by kernel_rfl) rfl (sub_cons (by kernel_rfl) rfl (sub_cons (by kernel_rfl) rfl sub_nil)))))))) (hsub [0] (by kernel_rfl) rfl)
              · skip
                refine cm_skip ?_
                refine xm_next ?_
                refine cm_seq ?_
                refine cm_region ?_
                refine lm_val 26 (by kernel_rfl) (fun w1 c1 => (op_eql rfl rfl)) ?_
                refine lm_val 25 (by kernel_rfl) (fun w1 c1 => (op_assign (v := .bool _) rfl)) ?_
                refine lm_nil ?_
                refine xm_next ?_
                refine cm_cond (by kernel_rfl) rfl (fun h207 => ?_) (fun h207 => ?_)
                · skip
                  refine cm_exit ?_
                  refine xm_thenE ?_
                  refine xm_pass (by kernel_rfl) ?_
                  refine xm_thenE ?_
                  refine xm_pass (by kernel_rfl) ?_
                  refine xm_lexitM ?_
                  refine xm_here ?_
                  refine xm_next ?_
                  refine cm_seq ?_
                  refine cm_region ?_
                  refine lm_val 31 (by kernel_rfl) (fun w1 c1 => (op_move (v := .int .i64 _) rfl)) ?_
                  refine lm_val 32 (by kernel_rfl) (fun w1 c1 => (op_fieldL (m := 4) (k := 4) rfl (by kernel_rfl) rfl)) ?_
                  refine lm_val 33 (by kernel_rfl) (fun w1 c1 => (op_load rfl (by kernel_rfl) (c1.cell 0 (u := .int .i64 _) rfl rfl))) ?_
                  refine lm_ck (fun h208 => ?_)
                  refine lm_val 34 (by kernel_rfl) (fun w1 c1 => (op_sub rfl rfl h208)) ?_
                  refine lm_val 5 (by kernel_rfl) (fun w1 c1 => (op_assign (v := .int .i64 _) rfl)) ?_
                  refine lm_nil ?_
                  refine xm_next ?_
                  refine cm_exit ?_
                  refine xm_here ?_
                  refine xm_inN ?_
                  exact xm_lnext () (sub_cons (by kernel_rfl) rfl (sub_cons (by kernel_rfl) rfl (sub_cons (by kernel_rfl) rfl (sub_cons (by kernel_rfl) rfl (sub_cons (by kernel_rfl) rfl (sub_cons (by kernel_rfl) rfl (sub_cons (by kernel_rfl) rfl sub_nil))))))) (hsub [] (by kernel_rfl) rfl)
                · skip
                  refine cm_skip ?_
                  refine xm_next ?_
                  refine cm_exit ?_
                  refine xm_pass (by kernel_rfl) ?_
                  refine xm_thenE ?_
                  refine xm_pass (by kernel_rfl) ?_
                  refine xm_lexit ?_
                  refine xm_pass (by kernel_rfl) ?_
                  refine xm_thenE ?_
                  refine xm_here ?_
                  refine xm_inN ?_
                  exact xm_lnext () (sub_cons (by kernel_rfl) rfl (sub_cons (by kernel_rfl) rfl (sub_cons (by kernel_rfl) rfl (sub_cons (by kernel_rfl) rfl (sub_cons (by kernel_rfl) rfl (sub_cons (by kernel_rfl) rfl (sub_cons (by kernel_rfl) rfl sub_nil))))))) (hsub [] (by kernel_rfl) rfl)
          intro s203 u204
          refine cm_seq ?_
          refine cm_region ?_
          refine lm_val 27 (by kernel_rfl) (fun w1 c1 => (op_move (v := .int .i64 _) rfl)) ?_
          refine lm_val 28 (by kernel_rfl) (fun w1 c1 => (op_fieldL (m := 4) (k := 4) rfl (by kernel_rfl) rfl)) ?_
          refine lm_val 29 (by kernel_rfl) (fun w1 c1 => (op_load rfl (by kernel_rfl) (c1.cell 0 (u := .int .i64 _) rfl rfl))) ?_
          refine lm_ck (fun h209 => ?_)
          refine lm_val 30 (by kernel_rfl) (fun w1 c1 => (op_add rfl rfl h209)) ?_
          refine lm_val 4 (by kernel_rfl) (fun w1 c1 => (op_assign (v := .int .i64 _) rfl)) ?_
          refine lm_nil ?_
          refine xm_next ?_
          refine cm_exit ?_
          refine xm_pass (by kernel_rfl) ?_
          refine xm_thenE ?_
          refine xm_here ?_
          refine xm_inN ?_
          exact xm_lnext () (sub_cons (by kernel_rfl) rfl (sub_cons (by kernel_rfl) rfl (sub_cons (by kernel_rfl) rfl (sub_cons (by kernel_rfl) rfl (sub_cons (by kernel_rfl) rfl (sub_cons (by kernel_rfl) rfl (sub_cons (by kernel_rfl) rfl sub_nil))))))) (hsub [] (by kernel_rfl) rfl)
      intro s194 u195
      refine cm_region ?_
      refine lm_ck (fun h210 => ?_)
      refine lm_val 35 (by kernel_rfl) (fun w1 c1 => (op_add rfl rfl h210)) ?_
      refine lm_val 11 (by kernel_rfl) (fun w1 c1 => (op_move (v := .int .i64 _) rfl)) ?_
      refine lm_nil ?_
      exact xm_lnext () (sub_cons (by kernel_rfl) rfl (sub_cons (by kernel_rfl) rfl (sub_cons (by kernel_rfl) rfl (sub_cons (by kernel_rfl) rfl (sub_cons (by kernel_rfl) rfl (sub_cons (by kernel_rfl) rfl (sub_cons (by kernel_rfl) rfl sub_nil))))))) (hsub [] (by kernel_rfl) rfl)
    · skip
      refine cm_exit ?_
      refine xm_thenE ?_
      refine xm_lexit ?_
      refine xm_here ?_
      exact xm_lnext () (sub_cons (by kernel_rfl) rfl (sub_cons (by kernel_rfl) rfl (sub_cons (by kernel_rfl) rfl sub_nil))) (hsub [] (by kernel_rfl) rfl)
  intro s107 u108
  refine cm_seq ?_
  refine cm_region ?_
  refine lm_val 36 (by kernel_rfl) (fun w1 c1 => (op_move (v := .int .i64 _) rfl)) ?_
  refine lm_val 37 (by kernel_rfl) (fun w1 c1 => (op_move (v := .int .i64 _) rfl)) ?_
  refine lm_val 38 (by kernel_rfl) (fun w1 c1 => (op_move (v := .bool _) rfl)) ?_
  refine lm_val 4 (by kernel_rfl) (fun w1 c1 => (op_assign (v := .int .i64 _) rfl)) ?_
  refine lm_val 5 (by kernel_rfl) (fun w1 c1 => (op_assign (v := .int .i64 _) rfl)) ?_
  refine lm_val 6 (by kernel_rfl) (fun w1 c1 => (op_assign (v := .bool _) rfl)) ?_
  refine lm_nil ?_
  refine xm_next ?_
  refine cm_ret ?_
  exact xm_retTTT rfl (by kernel_rfl) (show _ = Value.int .i64 _ from rfl) (by kernel_rfl) (show _ = Value.int .i64 _ from rfl) (by kernel_rfl) (show _ = Value.bool _ from rfl) fun w1 c1 => ⟨(), rfl, hsub [] (by kernel_rfl) rfl w1 c1⟩
/-- bill.Credit -/
def m_bill_Credit (N : Nat) (p0 : ApiBill) (p1 : Int) (p2 : Int) : Option (ApiBill × Int) :=
  (if 512 ≤ (List.length p0.Items : Int) then
    some (((ApiBill.mk 0 0 (ApiWindow.mk 0 0) ([] : List ApiItem) 0), (8 : Int)))
  else
    Option.bind (m_bill_money N p0.Total) fun r8 => callIf ((!(!r8)) = true) (m_slices_ContainsFunc_bill_Credit_1 N p0.Items) fun r10 => (if ((((!r8) || r10) || (decide (p2 < 1))) || (decide (1000000000000 < p2))) = true then
      some (((ApiBill.mk 0 0 (ApiWindow.mk 0 0) ([] : List ApiItem) 0), (1 : Int)))
    else
      Option.bind (m_bill_account N p0.Items p1) fun r16 => (if (!r16.2.2) = true then
        some (((ApiBill.mk 0 0 (ApiWindow.mk 0 0) ([] : List ApiItem) 0), (7 : Int)))
      else
        ck (I64 (r16.2.1 + p2)) (
          (if r16.1 < (r16.2.1 + p2) then
            some (((ApiBill.mk 0 0 (ApiWindow.mk 0 0) ([] : List ApiItem) 0), (1 : Int)))
          else
            ck (I64 ((List.length p0.Items : Int) + (1 : Int))) (
              ck ((0 : Int) ≤ (List.length p0.Items : Int) ∧ (List.length p0.Items : Int) ≤ ((List.length p0.Items : Int) + (1 : Int)) ∧ Int.toNat ((List.length p0.Items : Int) + (1 : Int)) * 40 ≤ 140737488355328) (
                ck (I64 (-p2)) (
                  ck (I64 (-p2)) (
                    ck ((List.length (copyAt (List.replicate (Int.toNat (List.length p0.Items : Int)) (ApiItem.mk (0 : Int) (0 : Int) (0 : Int) (0 : Int) (0 : Int))) 0 p0.Items (min (List.length (List.replicate (Int.toNat (List.length p0.Items : Int)) (ApiItem.mk (0 : Int) (0 : Int) (0 : Int) (0 : Int) (0 : Int))) - 0) (List.length p0.Items))) + List.length ([(ApiItem.mk 4 p1 1 (-p2) (-p2))])) * 40 ≤ 140737488355328) (
                      ck (I64 (p0.Total - p2)) (
                        some (((ApiBill.mk p0.ID p0.Household p0.When ((copyAt (List.replicate (Int.toNat (List.length p0.Items : Int)) (ApiItem.mk (0 : Int) (0 : Int) (0 : Int) (0 : Int) (0 : Int))) 0 p0.Items (min (List.length (List.replicate (Int.toNat (List.length p0.Items : Int)) (ApiItem.mk (0 : Int) (0 : Int) (0 : Int) (0 : Int) (0 : Int))) - 0) (List.length p0.Items))) ++ ([(ApiItem.mk 4 p1 1 (-p2) (-p2))])) (p0.Total - p2)), (0 : Int))))))))))))))
set_option maxHeartbeats 2000000 in
set_option maxRecDepth 20000 in
theorem m_bill_Credit_ok (N : Nat) (w0 : World) (p0 : ApiBill) (p1 : Int) (p2 : Int) (A_p01 : Option Addr) (n_p01 c_p01 : Nat) (hr_p01 : RdE w0 5 encApiItem A_p01 p0.Items) (hz_p01 : SW A_p01 n_p01 c_p01 (List.length p0.Items)) (r : ApiBill × Int) (hr : m_bill_Credit N p0 p1 p2 = some r) :
    Calls Try.prog 25 [.agg #[.int .i64 p0.ID, .int .i64 p0.Household, .int .i64 p0.When.From, .int .i64 p0.When.To, .slice A_p01 n_p01 c_p01, .int .i64 p0.Total], .int .i64 p1, .int .i64 p2].toArray w0 fun x w1 => ∃ u, x = .returned ((fun (r : ApiBill × Int) (u : (Option Addr) × Nat × Nat) => .tuple #[.agg #[.int .i64 r.1.ID, .int .i64 r.1.Household, .int .i64 r.1.When.From, .int .i64 r.1.When.To, .slice u.1 u.2.1 u.2.2, .int .i64 r.1.Total], .int .i64 r.2]) r u) ∧ Hs w0 ((fun (r : ApiBill × Int) (u : (Option Addr) × Nat × Nat) => [ownE 55 5 encApiItem u.1 u.2.1 u.2.2 r.1.Items]) r u) w1 := by
  refine calls_cm (n := 85) (R := fun r x w1 => ∃ u, x = .returned ((fun (r : ApiBill × Int) (u : (Option Addr) × Nat × Nat) => .tuple #[.agg #[.int .i64 r.1.ID, .int .i64 r.1.Household, .int .i64 r.1.When.From, .int .i64 r.1.When.To, .slice u.1 u.2.1 u.2.2, .int .i64 r.1.Total], .int .i64 r.2]) r u) ∧ Hs w0 ((fun (r : ApiBill × Int) (u : (Option Addr) × Nat × Nat) => [ownE 55 5 encApiItem u.1 u.2.1 u.2.2 r.1.Items]) r u) w1) Try.func25 rfl rfl (Nat.le_of_ble_eq_true rfl) ?_ r hr
  unfold m_bill_Credit
  refine cm_seq ?_
  refine cm_region ?_
  refine lm_box 3 [.int .i64 _, .int .i64 _, .int .i64 _, .int .i64 _, .slice _ _ _, .int .i64 _] (by kernel_rfl) rfl ?_
  intro b5
  refine lm_alloc 6 [.int .i64 0, .int .i64 0, .int .i64 0, .int .i64 0, .slice none 0 0, .int .i64 0] (v := .agg #[.int .i64 0, .int .i64 0, .int .i64 0, .int .i64 0, .slice none 0 0, .int .i64 0]) (by kernel_rfl) (by kernel_rfl) rfl ?_
  intro b6
  refine lm_val 7 (by kernel_rfl) (fun w1 c1 => (op_assign (v := .int .i64 _) rfl)) ?_
  refine lm_nil ?_
  refine xm_next ?_
  refine cm_seq ?_
  refine cm_seq ?_
  refine cm_region ?_
  refine lm_val 12 (by kernel_rfl) (fun w1 c1 => (op_fieldL (m := 4) (k := 4) rfl (by kernel_rfl) rfl)) ?_
  refine lm_val 13 (by kernel_rfl) (fun w1 c1 => (op_load rfl (by kernel_rfl) (c1.cell 1 (u := .slice _ _ _) rfl rfl))) ?_
  refine lm_val 14 (by kernel_rfl) (fun w1 c1 => (op_lenN rfl (by kernel_rfl) hz_p01.2.2)) ?_
  refine lm_val 15 (by kernel_rfl) (fun w1 c1 => (op_geq rfl rfl)) ?_
  refine lm_nil ?_
  refine xm_next ?_
  refine cm_cond (by kernel_rfl) rfl (fun h7 => ?_) (fun h7 => ?_)
  · skip
    refine cm_seq ?_
    refine cm_region ?_
    refine lm_val 16 (by kernel_rfl) (fun w1 c1 => (op_build (z := [.int .i64 0, .int .i64 0, .int .i64 0, .int .i64 0, .slice none 0 0, .int .i64 0]) (tab := [(0, 1), (1, 1), (2, 2), (4, 1), (5, 1)]) (cs := [.int .i64 _, .int .i64 _, .int .i64 _, .int .i64 _, .slice _ _ _, .int .i64 _]) [] (by kernel_rfl) (by kernel_rfl) fillOk_nil rfl)) ?_
    refine lm_storeA 0 [.int .i64 _, .int .i64 _, .int .i64 _, .int .i64 _, .slice _ _ _, .int .i64 _] [_, _, _, _, _, _] (H' := [blkE _ _ [_, _, _, _, _, _], _]) (by kernel_rfl) rfl rfl (by kernel_rfl) rfl rfl (by kernel_rfl) rfl rfl ?_
    refine lm_val 7 (by kernel_rfl) (fun w1 c1 => (op_assign (v := .int .i64 _) rfl)) ?_
    refine lm_nil ?_
    refine xm_next ?_
    refine cm_ret ?_
    refine xm_thenR ?_
    refine xm_nilrow 55 5 encApiItem ?_
    exact xm_retCT rfl (by kernel_rfl) (show _ = Value.pointer (some ⟨_, 0, none⟩) from rfl) (by kernel_rfl) (fun w1 c1 => c1.cells 1 (ds := [.int .i64 _, .int .i64 _, .int .i64 _, .int .i64 _, .slice _ _ _, .int .i64 _]) rfl rfl) (by kernel_rfl) (show _ = Value.int .i64 _ from rfl) fun w1 c1 => ⟨(none, 0, 0), rfl, hsub [0] (by kernel_rfl) rfl w1 c1⟩
  · skip
    refine cm_skip ?_
    refine xm_next ?_
    refine cm_seq ?_
    refine cm_seq ?_
    refine cm_bind fun r8 h9 => ?_
    refine cm_callIf fun r10 h11 => ?_
    refine cm_cutE [(33, .bool ((((!r8) || r10) || (decide (p2 < 1))) || (decide (1000000000000 < p2))))] ?_ ?_
    · skip
      refine wq_val 17 (by kernel_rfl) (fun w1 c1 => (op_fieldL (m := 5) (k := 5) rfl (by kernel_rfl) rfl)) ?_
      refine wq_val 18 (by kernel_rfl) (fun w1 c1 => (op_load rfl (by kernel_rfl) (c1.cell 1 (u := .int .i64 _) rfl rfl))) ?_
      refine wq_callb 19 (by kernel_rfl) (fun w1 c1 => op_call (by kernel_rfl)) (fun w1 c1 => (m_bill_money_ok N w1 p0.Total  r8 h9).mono (fun _ _ ⟨_, hx, hu⟩ => ⟨hx, c1.call hu⟩)) (fun h12 => ?_) (fun h12 => ?_)
      · skip
        refine wq_val 20 (by kernel_rfl) (fun w1 c1 => (op_nott rfl)) ?_
        refine wq_val 21 (by kernel_rfl) (fun w1 c1 => (op_move (v := .bool false) rfl)) ?_
        refine wq_val 22 (by kernel_rfl) (fun w1 c1 => (op_fieldL (m := 4) (k := 4) rfl (by kernel_rfl) rfl)) ?_
        refine wq_val 23 (by kernel_rfl) (fun w1 c1 => (op_load rfl (by kernel_rfl) (c1.cell 1 (u := .slice _ _ _) rfl rfl))) ?_
        refine wq_callb 24 (by kernel_rfl) (fun w1 c1 => op_call (by kernel_rfl)) (fun w1 c1 => (m_slices_ContainsFunc_bill_Credit_1_ok N w1 p0.Items A_p01 n_p01 c_p01 (hr_p01.old c1) hz_p01 r10 (h11 (by rw [h12] <;> rfl))).mono (fun _ _ ⟨_, hx, hu⟩ => ⟨hx, c1.call hu⟩)) (fun h13 => ?_) (fun h13 => ?_)
        · skip
          refine wq_val 25 (by kernel_rfl) (fun w1 c1 => (op_pick_f (v := .bool true) rfl rfl)) ?_
          refine wq_val 26 (by kernel_rfl) (fun w1 c1 => (op_move (v := .bool true) rfl)) ?_
          refine wq_skip 27 (by kernel_rfl) ?_
          refine wq_skip 28 (by kernel_rfl) ?_
          refine wq_val 29 (by kernel_rfl) (fun w1 c1 => (op_pick_t (v := .bool true) rfl rfl)) ?_
          refine wq_val 30 (by kernel_rfl) (fun w1 c1 => (op_move (v := .bool true) rfl)) ?_
          refine wq_skip 31 (by kernel_rfl) ?_
          refine wq_skip 32 (by kernel_rfl) ?_
          refine wq_val 33 (by kernel_rfl) (fun w1 c1 => (op_pick_t (v := .bool true) rfl rfl)) ?_
          exact leaf_q (sub_out 17 _ rfl (by kernel_rfl) ⟨(congrArg Value.bool (by rw [h12, h13] <;> rfl)), trivial⟩)
        · skip
          refine wq_val 25 (by kernel_rfl) (fun w1 c1 => (op_pick_f (v := .bool false) rfl rfl)) ?_
          refine wq_val 26 (by kernel_rfl) (fun w1 c1 => (op_move (v := .bool false) rfl)) ?_
          refine wq_val 27 (by kernel_rfl) (fun w1 c1 => (op_move (v := .int .i64 _) rfl)) ?_
          refine wq_dec 28 (by kernel_rfl) (fun w1 c1 => (op_lss rfl rfl)) (fun h14 => ?_) (fun h14 => ?_)
          · skip
            refine wq_val 29 (by kernel_rfl) (fun w1 c1 => (op_pick_f (v := .bool true) rfl rfl)) ?_
            refine wq_val 30 (by kernel_rfl) (fun w1 c1 => (op_move (v := .bool true) rfl)) ?_
            refine wq_skip 31 (by kernel_rfl) ?_
            refine wq_skip 32 (by kernel_rfl) ?_
            refine wq_val 33 (by kernel_rfl) (fun w1 c1 => (op_pick_t (v := .bool true) rfl rfl)) ?_
            exact leaf_q (sub_out 17 _ rfl (by kernel_rfl) ⟨(congrArg Value.bool (by rw [h12, h13, decide_eq_true h14] <;> rfl)), trivial⟩)
          · skip
            refine wq_val 29 (by kernel_rfl) (fun w1 c1 => (op_pick_f (v := .bool false) rfl rfl)) ?_
            refine wq_val 30 (by kernel_rfl) (fun w1 c1 => (op_move (v := .bool false) rfl)) ?_
            refine wq_val 31 (by kernel_rfl) (fun w1 c1 => (op_move (v := .int .i64 _) rfl)) ?_
            refine wq_val 32 (by kernel_rfl) (fun w1 c1 => (op_gtr rfl rfl)) ?_
            refine wq_val 33 (by kernel_rfl) (fun w1 c1 => (op_pick_f (v := .bool _) rfl rfl)) ?_
            exact leaf_q (sub_out 17 _ rfl (by kernel_rfl) ⟨(congrArg Value.bool (by rw [h12, h13, decide_eq_false h14] <;> rfl)), trivial⟩)
      · skip
        refine wq_val 20 (by kernel_rfl) (fun w1 c1 => (op_notf rfl)) ?_
        refine wq_val 21 (by kernel_rfl) (fun w1 c1 => (op_move (v := .bool true) rfl)) ?_
        refine wq_skip 22 (by kernel_rfl) ?_
        refine wq_skip 23 (by kernel_rfl) ?_
        refine wq_skip 24 (by kernel_rfl) ?_
        refine wq_val 25 (by kernel_rfl) (fun w1 c1 => (op_pick_t (v := .bool true) rfl rfl)) ?_
        refine wq_val 26 (by kernel_rfl) (fun w1 c1 => (op_move (v := .bool true) rfl)) ?_
        refine wq_skip 27 (by kernel_rfl) ?_
        refine wq_skip 28 (by kernel_rfl) ?_
        refine wq_val 29 (by kernel_rfl) (fun w1 c1 => (op_pick_t (v := .bool true) rfl rfl)) ?_
        refine wq_val 30 (by kernel_rfl) (fun w1 c1 => (op_move (v := .bool true) rfl)) ?_
        refine wq_skip 31 (by kernel_rfl) ?_
        refine wq_skip 32 (by kernel_rfl) ?_
        refine wq_val 33 (by kernel_rfl) (fun w1 c1 => (op_pick_t (v := .bool true) rfl rfl)) ?_
        exact leaf_q (sub_out 17 _ rfl (by kernel_rfl) ⟨(congrArg Value.bool (by rw [h12] <;> rfl)), trivial⟩)
    refine xm_next ?_
    refine cm_condB (by kernel_rfl) rfl (fun h15 => ?_) (fun h15 => ?_)
    · skip
      refine cm_seq ?_
      refine cm_region ?_
      refine lm_val 34 (by kernel_rfl) (fun w1 c1 => (op_build (z := [.int .i64 0, .int .i64 0, .int .i64 0, .int .i64 0, .slice none 0 0, .int .i64 0]) (tab := [(0, 1), (1, 1), (2, 2), (4, 1), (5, 1)]) (cs := [.int .i64 _, .int .i64 _, .int .i64 _, .int .i64 _, .slice _ _ _, .int .i64 _]) [] (by kernel_rfl) (by kernel_rfl) fillOk_nil rfl)) ?_
      refine lm_storeA 0 [.int .i64 _, .int .i64 _, .int .i64 _, .int .i64 _, .slice _ _ _, .int .i64 _] [_, _, _, _, _, _] (H' := [blkE _ _ [_, _, _, _, _, _], _]) (by kernel_rfl) rfl rfl (by kernel_rfl) rfl rfl (by kernel_rfl) rfl rfl ?_
      refine lm_val 7 (by kernel_rfl) (fun w1 c1 => (op_assign (v := .int .i64 _) rfl)) ?_
      refine lm_nil ?_
      refine xm_next ?_
      refine cm_ret ?_
      refine xm_thenR ?_
      refine xm_nilrow 55 5 encApiItem ?_
      exact xm_retCT rfl (by kernel_rfl) (show _ = Value.pointer (some ⟨_, 0, none⟩) from rfl) (by kernel_rfl) (fun w1 c1 => c1.cells 1 (ds := [.int .i64 _, .int .i64 _, .int .i64 _, .int .i64 _, .slice _ _ _, .int .i64 _]) rfl rfl) (by kernel_rfl) (show _ = Value.int .i64 _ from rfl) fun w1 c1 => ⟨(none, 0, 0), rfl, hsub [0] (by kernel_rfl) rfl w1 c1⟩
    · skip
      refine cm_skip ?_
      refine xm_next ?_
      refine cm_seq ?_
      refine cm_region ?_
      refine lm_val 36 (by kernel_rfl) (fun w1 c1 => (op_fieldL (m := 4) (k := 4) rfl (by kernel_rfl) rfl)) ?_
      refine lm_val 37 (by kernel_rfl) (fun w1 c1 => (op_load rfl (by kernel_rfl) (c1.cell 1 (u := .slice _ _ _) rfl rfl))) ?_
      refine lm_val 38 (by kernel_rfl) (fun w1 c1 => (op_move (v := .int .i64 _) rfl)) ?_
      refine lm_call 39 (V := (fun (r : Int × Int × Bool) (_u : Unit) => .tuple #[.int .i64 r.1, .int .i64 r.2.1, .bool r.2.2])) (HR := (fun (_r : Int × Int × Bool) (_u : Unit) => [])) (by kernel_rfl) (fun w1 => op_call (by kernel_rfl)) (fun r1 hr1 w1 c1 => m_bill_account_ok N w1 p0.Items p1 A_p01 n_p01 c_p01 (hr_p01.old c1) hz_p01 r1 hr1) ?_
      intro r16 u17
      refine lm_val 35 (by kernel_rfl) (fun w1 c1 => (op_move (v := .tuple _) rfl)) ?_
      refine lm_val 40 (by kernel_rfl) (fun w1 c1 => (op_extract (v := .int .i64 _) rfl rfl)) ?_
      refine lm_val 41 (by kernel_rfl) (fun w1 c1 => (op_extract (v := .int .i64 _) rfl rfl)) ?_
      refine lm_val 42 (by kernel_rfl) (fun w1 c1 => (op_extract (v := .bool _) rfl rfl)) ?_
      refine lm_val 8 (by kernel_rfl) (fun w1 c1 => (op_assign (v := .int .i64 _) rfl)) ?_
      refine lm_val 9 (by kernel_rfl) (fun w1 c1 => (op_assign (v := .int .i64 _) rfl)) ?_
      refine lm_val 10 (by kernel_rfl) (fun w1 c1 => (op_assign (v := .bool _) rfl)) ?_
      refine lm_nil ?_
      refine xm_next ?_
      refine cm_seq ?_
      refine cm_seq ?_
      refine cm_region ?_
      refine lm_val 43 (by kernel_rfl) (fun w1 c1 => (op_move (v := .bool _) rfl)) ?_
      refine lm_val 44 (by kernel_rfl) (fun w1 c1 => (op_not rfl)) ?_
      refine lm_nil ?_
      refine xm_next ?_
      refine cm_condB (by kernel_rfl) rfl (fun h18 => ?_) (fun h18 => ?_)
      · skip
        refine cm_seq ?_
        refine cm_region ?_
        refine lm_val 45 (by kernel_rfl) (fun w1 c1 => (op_build (z := [.int .i64 0, .int .i64 0, .int .i64 0, .int .i64 0, .slice none 0 0, .int .i64 0]) (tab := [(0, 1), (1, 1), (2, 2), (4, 1), (5, 1)]) (cs := [.int .i64 _, .int .i64 _, .int .i64 _, .int .i64 _, .slice _ _ _, .int .i64 _]) [] (by kernel_rfl) (by kernel_rfl) fillOk_nil rfl)) ?_
        refine lm_storeA 0 [.int .i64 _, .int .i64 _, .int .i64 _, .int .i64 _, .slice _ _ _, .int .i64 _] [_, _, _, _, _, _] (H' := [blkE _ _ [_, _, _, _, _, _], _]) (by kernel_rfl) rfl rfl (by kernel_rfl) rfl rfl (by kernel_rfl) rfl rfl ?_
        refine lm_val 7 (by kernel_rfl) (fun w1 c1 => (op_assign (v := .int .i64 _) rfl)) ?_
        refine lm_nil ?_
        refine xm_next ?_
        refine cm_ret ?_
        refine xm_thenR ?_
        refine xm_nilrow 55 5 encApiItem ?_
        exact xm_retCT rfl (by kernel_rfl) (show _ = Value.pointer (some ⟨_, 0, none⟩) from rfl) (by kernel_rfl) (fun w1 c1 => c1.cells 1 (ds := [.int .i64 _, .int .i64 _, .int .i64 _, .int .i64 _, .slice _ _ _, .int .i64 _]) rfl rfl) (by kernel_rfl) (show _ = Value.int .i64 _ from rfl) fun w1 c1 => ⟨(none, 0, 0), rfl, hsub [0] (by kernel_rfl) rfl w1 c1⟩
      · skip
        refine cm_skip ?_
        refine xm_next ?_
        refine cm_seq ?_
        refine cm_seq ?_
        refine cm_region ?_
        refine lm_val 46 (by kernel_rfl) (fun w1 c1 => (op_move (v := .int .i64 _) rfl)) ?_
        refine lm_val 47 (by kernel_rfl) (fun w1 c1 => (op_move (v := .int .i64 _) rfl)) ?_
        refine lm_ck (fun h19 => ?_)
        refine lm_val 48 (by kernel_rfl) (fun w1 c1 => (op_add rfl rfl h19)) ?_
        refine lm_val 49 (by kernel_rfl) (fun w1 c1 => (op_move (v := .int .i64 _) rfl)) ?_
        refine lm_val 50 (by kernel_rfl) (fun w1 c1 => (op_gtr rfl rfl)) ?_
        refine lm_nil ?_
        refine xm_next ?_
        refine cm_cond (by kernel_rfl) rfl (fun h20 => ?_) (fun h20 => ?_)
        · skip
          refine cm_seq ?_
          refine cm_region ?_
          refine lm_val 51 (by kernel_rfl) (fun w1 c1 => (op_build (z := [.int .i64 0, .int .i64 0, .int .i64 0, .int .i64 0, .slice none 0 0, .int .i64 0]) (tab := [(0, 1), (1, 1), (2, 2), (4, 1), (5, 1)]) (cs := [.int .i64 _, .int .i64 _, .int .i64 _, .int .i64 _, .slice _ _ _, .int .i64 _]) [] (by kernel_rfl) (by kernel_rfl) fillOk_nil rfl)) ?_
          refine lm_storeA 0 [.int .i64 _, .int .i64 _, .int .i64 _, .int .i64 _, .slice _ _ _, .int .i64 _] [_, _, _, _, _, _] (H' := [blkE _ _ [_, _, _, _, _, _], _]) (by kernel_rfl) rfl rfl (by kernel_rfl) rfl rfl (by kernel_rfl) rfl rfl ?_
          refine lm_val 7 (by kernel_rfl) (fun w1 c1 => (op_assign (v := .int .i64 _) rfl)) ?_
          refine lm_nil ?_
          refine xm_next ?_
          refine cm_ret ?_
          refine xm_thenR ?_
          refine xm_nilrow 55 5 encApiItem ?_
          exact xm_retCT rfl (by kernel_rfl) (show _ = Value.pointer (some ⟨_, 0, none⟩) from rfl) (by kernel_rfl) (fun w1 c1 => c1.cells 1 (ds := [.int .i64 _, .int .i64 _, .int .i64 _, .int .i64 _, .slice _ _ _, .int .i64 _]) rfl rfl) (by kernel_rfl) (show _ = Value.int .i64 _ from rfl) fun w1 c1 => ⟨(none, 0, 0), rfl, hsub [0] (by kernel_rfl) rfl w1 c1⟩
        · skip
          refine cm_skip ?_
          refine xm_next ?_
          refine cm_seq ?_
          refine cm_region ?_
          refine lm_val 52 (by kernel_rfl) (fun w1 c1 => (op_fieldL (m := 4) (k := 4) rfl (by kernel_rfl) rfl)) ?_
          refine lm_val 53 (by kernel_rfl) (fun w1 c1 => (op_load rfl (by kernel_rfl) (c1.cell 1 (u := .slice _ _ _) rfl rfl))) ?_
          refine lm_val 54 (by kernel_rfl) (fun w1 c1 => (op_lenN rfl (by kernel_rfl) hz_p01.2.2)) ?_
          refine lm_val 55 (by kernel_rfl) (fun w1 c1 => (op_fieldL (m := 4) (k := 4) rfl (by kernel_rfl) rfl)) ?_
          refine lm_val 56 (by kernel_rfl) (fun w1 c1 => (op_load rfl (by kernel_rfl) (c1.cell 1 (u := .slice _ _ _) rfl rfl))) ?_
          refine lm_val 57 (by kernel_rfl) (fun w1 c1 => (op_lenN rfl (by kernel_rfl) hz_p01.2.2)) ?_
          refine lm_ck (fun h21 => ?_)
          refine lm_val 58 (by kernel_rfl) (fun w1 c1 => (op_add rfl rfl h21)) ?_
          refine lm_ck (fun h22 => ?_)
          refine lm_makeCap 59 (el := 55) (sz := 5) (bytes := 40) (enc := encApiItem) (ApiItem.mk (0 : Int) (0 : Int) (0 : Int) (0 : Int) (0 : Int)) (zv := .agg #[.int .i64 0, .int .i64 0, .int .i64 0, .int .i64 0, .int .i64 0]) (by kernel_rfl) (by kernel_rfl) (by kernel_rfl) rfl encApiItem_len rfl rfl h22.1 h22.2.1 h22.2.2 (by kernel_rfl) ?_
          intro A23 n24 k25 h26
          refine lm_val 11 (by kernel_rfl) (fun w1 c1 => (op_assign (v := .slice _ _ _) rfl)) ?_
          refine lm_nil ?_
          refine xm_next ?_
          refine cm_seq ?_
          refine cm_region ?_
          refine lm_val 60 (by kernel_rfl) (fun w1 c1 => (op_move (v := .slice _ _ _) rfl)) ?_
          refine lm_val 61 (by kernel_rfl) (fun w1 c1 => (op_fieldL (m := 4) (k := 4) rfl (by kernel_rfl) rfl)) ?_
          refine lm_val 62 (by kernel_rfl) (fun w1 c1 => (op_load rfl (by kernel_rfl) (c1.cell 2 (u := .slice _ _ _) rfl rfl))) ?_
          refine lm_copy 63 0 (el := 55) (sz := 5) (bytes := 40) (enc := encApiItem) (l2 := p0.Items) 0 (by kernel_rfl) (by kernel_rfl) encApiItem_len encApiItem_one rfl rfl (fun w1 c1 => own_at (c1.own 0 rfl encApiItem_len) (c1.ownZ 0 rfl)) (fun w1 c1 => by rw [(c1.ownZ 0 rfl).2.2]; rfl) (Nat.zero_le _) rfl (fun w1 c1 => hz_p01) (fun w1 c1 => (hr_p01.old c1)) ?_
          refine lm_nil ?_
          refine xm_next ?_
          refine cm_seq ?_
          refine cm_region ?_
          refine lm_val 64 (by kernel_rfl) (fun w1 c1 => (op_move (v := .slice _ _ _) rfl)) ?_
          refine lm_val 65 (by kernel_rfl) (fun w1 c1 => (op_move (v := .int .i64 _) rfl)) ?_
          refine lm_val 66 (by kernel_rfl) (fun w1 c1 => (op_move (v := .int .i64 _) rfl)) ?_
          refine lm_ck (fun h27 => ?_)
          refine lm_val 67 (by kernel_rfl) (fun w1 c1 => (op_neg rfl h27)) ?_
          refine lm_val 68 (by kernel_rfl) (fun w1 c1 => (op_move (v := .int .i64 _) rfl)) ?_
          refine lm_ck (fun h28 => ?_)
          refine lm_val 69 (by kernel_rfl) (fun w1 c1 => (op_neg rfl h28)) ?_
          refine lm_val 70 (by kernel_rfl) (fun w1 c1 => (op_build (z := [.int .i64 0, .int .i64 0, .int .i64 0, .int .i64 0, .int .i64 0]) (tab := [(0, 1), (1, 1), (2, 1), (3, 1), (4, 1)]) (cs := [.int .i64 _, .int .i64 _, .int .i64 _, .int .i64 _, .int .i64 _]) [(0, [.int .i64 _]), (1, [.int .i64 _]), (2, [.int .i64 _]), (3, [.int .i64 _]), (4, [.int .i64 _])] (by kernel_rfl) (by kernel_rfl) (fillOk_cons rfl rfl rfl (fillOk_cons rfl rfl rfl (fillOk_cons rfl rfl rfl (fillOk_cons rfl rfl rfl (fillOk_cons rfl rfl rfl fillOk_nil))))) rfl)) ?_
          refine lm_slice1 71 (el := 55) (sz := 5) (bytes := 40) (enc := encApiItem) (ApiItem.mk 4 p1 1 (-p2) (-p2)) (by kernel_rfl) (by kernel_rfl) encApiItem_len rfl (by kernel_rfl) ?_
          intro A29 n30 k31 h32
          refine lm_ck (fun h33 => ?_)
          refine lm_append 72 1 (el := 55) (sz := 5) (bytes := 40) (enc := encApiItem) (l2 := ([(ApiItem.mk 4 p1 1 (-p2) (-p2))])) (by kernel_rfl) (by kernel_rfl) encApiItem_len encApiItem_one rfl rfl rfl (fun w1 c1 => (c1.ownZ 0 rfl)) (fun w1 c1 => (c1.own 0 rfl encApiItem_len)) h33 ?_ (by kernel_rfl)
          intro A34 n35 k36
          refine lm_val 11 (by kernel_rfl) (fun w1 c1 => (op_assign (v := .slice _ _ _) rfl)) ?_
          refine lm_nil ?_
          refine xm_next ?_
          refine cm_seq ?_
          refine cm_region ?_
          refine lm_val 73 (by kernel_rfl) (fun w1 c1 => (op_fieldL (m := 0) (k := 0) rfl (by kernel_rfl) rfl)) ?_
          refine lm_val 74 (by kernel_rfl) (fun w1 c1 => (op_load rfl (by kernel_rfl) (c1.cell 3 (u := .int .i64 _) rfl rfl))) ?_
          refine lm_val 75 (by kernel_rfl) (fun w1 c1 => (op_fieldL (m := 1) (k := 1) rfl (by kernel_rfl) rfl)) ?_
          refine lm_val 76 (by kernel_rfl) (fun w1 c1 => (op_load rfl (by kernel_rfl) (c1.cell 3 (u := .int .i64 _) rfl rfl))) ?_
          refine lm_val 77 (by kernel_rfl) (fun w1 c1 => (op_fieldL (m := 2) (k := 2) rfl (by kernel_rfl) rfl)) ?_
          refine lm_val 78 (by kernel_rfl) (fun w1 c1 => (op_loadR [.int .i64 _, .int .i64 _] rfl (by kernel_rfl) (c1.cells 3 rfl rfl))) ?_
          refine lm_val 79 (by kernel_rfl) (fun w1 c1 => (op_move (v := .slice _ _ _) rfl)) ?_
          refine lm_val 80 (by kernel_rfl) (fun w1 c1 => (op_fieldL (m := 5) (k := 5) rfl (by kernel_rfl) rfl)) ?_
          refine lm_val 81 (by kernel_rfl) (fun w1 c1 => (op_load rfl (by kernel_rfl) (c1.cell 3 (u := .int .i64 _) rfl rfl))) ?_
          refine lm_val 82 (by kernel_rfl) (fun w1 c1 => (op_move (v := .int .i64 _) rfl)) ?_
          refine lm_ck (fun h37 => ?_)
          refine lm_val 83 (by kernel_rfl) (fun w1 c1 => (op_sub rfl rfl h37)) ?_
          refine lm_val 84 (by kernel_rfl) (fun w1 c1 => (op_build (z := [.int .i64 0, .int .i64 0, .int .i64 0, .int .i64 0, .slice none 0 0, .int .i64 0]) (tab := [(0, 1), (1, 1), (2, 2), (4, 1), (5, 1)]) (cs := [.int .i64 _, .int .i64 _, .int .i64 _, .int .i64 _, .slice _ _ _, .int .i64 _]) [(0, [.int .i64 _]), (1, [.int .i64 _]), (2, [.int .i64 _, .int .i64 _]), (4, [.slice _ _ _]), (5, [.int .i64 _])] (by kernel_rfl) (by kernel_rfl) (fillOk_cons rfl rfl rfl (fillOk_cons rfl rfl rfl (fillOk_cons rfl rfl rfl (fillOk_cons rfl rfl rfl (fillOk_cons rfl rfl rfl fillOk_nil))))) rfl)) ?_
          refine lm_storeA 2 [.int .i64 _, .int .i64 _, .int .i64 _, .int .i64 _, .slice _ _ _, .int .i64 _] [_, _, _, _, _, _] (H' := [_, _, blkE _ _ [_, _, _, _, _, _], _]) (by kernel_rfl) rfl rfl (by kernel_rfl) rfl rfl (by kernel_rfl) rfl rfl ?_
          refine lm_val 7 (by kernel_rfl) (fun w1 c1 => (op_assign (v := .int .i64 _) rfl)) ?_
          refine lm_nil ?_
          refine xm_next ?_
          refine cm_ret ?_
          exact xm_retCT rfl (by kernel_rfl) (show _ = Value.pointer (some ⟨_, 0, none⟩) from rfl) (by kernel_rfl) (fun w1 c1 => c1.cells 2 (ds := [.int .i64 _, .int .i64 _, .int .i64 _, .int .i64 _, .slice _ _ _, .int .i64 _]) rfl rfl) (by kernel_rfl) (show _ = Value.int .i64 _ from rfl) fun w1 c1 => ⟨(A34, n35, k36), rfl, hsub [1] (by kernel_rfl) rfl w1 c1⟩
/-- complaint.Apply -/
def m_complaint_Apply (N : Nat) (p0 : ApiBill) (p1 : ApiComplaint) (p2 : ApiRuling) : Option (ApiBill × Int) :=
  Option.bind (m_complaint_Check N p1) fun r9 => (if r9 ≠ 0 then
    some (((ApiBill.mk 0 0 (ApiWindow.mk 0 0) ([] : List ApiItem) 0), r9))
  else
    (if p1.Bill ≠ p0.ID then
      some (((ApiBill.mk 0 0 (ApiWindow.mk 0 0) ([] : List ApiItem) 0), (34 : Int)))
    else
      (if p2.Err ≠ 0 then
        some (((ApiBill.mk 0 0 (ApiWindow.mk 0 0) ([] : List ApiItem) 0), (13 : Int)))
      else
        Option.bind (m_complaint_disputed N p0 p1) fun r14 => (if (!r14.2) = true then
          some (((ApiBill.mk 0 0 (ApiWindow.mk 0 0) ([] : List ApiItem) 0), (7 : Int)))
        else
          Option.bind (m_bill_Credit N p0 r14.1.Ref p2.Credit) fun r18 => some ((r18.1, r18.2))))))
set_option maxHeartbeats 2000000 in
set_option maxRecDepth 20000 in
theorem m_complaint_Apply_ok (N : Nat) (w0 : World) (p0 : ApiBill) (p1 : ApiComplaint) (p2 : ApiRuling) (A_p01 : Option Addr) (n_p01 c_p01 : Nat) (hr_p01 : RdE w0 5 encApiItem A_p01 p0.Items) (hz_p01 : SW A_p01 n_p01 c_p01 (List.length p0.Items)) (r : ApiBill × Int) (hr : m_complaint_Apply N p0 p1 p2 = some r) :
    Calls Try.prog 14 [.agg #[.int .i64 p0.ID, .int .i64 p0.Household, .int .i64 p0.When.From, .int .i64 p0.When.To, .slice A_p01 n_p01 c_p01, .int .i64 p0.Total], .agg #[.int .i64 p1.Bill, .int .i64 p1.Item, .int .i64 p1.At, .int .i64 p1.Kind], .agg #[.int .i64 p2.Credit, .int .i64 p2.Err]].toArray w0 fun x w1 => ∃ u, x = .returned ((fun (r : ApiBill × Int) (u : (Option Addr) × Nat × Nat) => .tuple #[.agg #[.int .i64 r.1.ID, .int .i64 r.1.Household, .int .i64 r.1.When.From, .int .i64 r.1.When.To, .slice u.1 u.2.1 u.2.2, .int .i64 r.1.Total], .int .i64 r.2]) r u) ∧ Hs w0 ((fun (r : ApiBill × Int) (u : (Option Addr) × Nat × Nat) => [ownE 55 5 encApiItem u.1 u.2.1 u.2.2 r.1.Items]) r u) w1 := by
  refine calls_cm (n := 44) (R := fun r x w1 => ∃ u, x = .returned ((fun (r : ApiBill × Int) (u : (Option Addr) × Nat × Nat) => .tuple #[.agg #[.int .i64 r.1.ID, .int .i64 r.1.Household, .int .i64 r.1.When.From, .int .i64 r.1.When.To, .slice u.1 u.2.1 u.2.2, .int .i64 r.1.Total], .int .i64 r.2]) r u) ∧ Hs w0 ((fun (r : ApiBill × Int) (u : (Option Addr) × Nat × Nat) => [ownE 55 5 encApiItem u.1 u.2.1 u.2.2 r.1.Items]) r u) w1) Try.func14 rfl rfl (Nat.le_of_ble_eq_true rfl) ?_ r hr
  unfold m_complaint_Apply
  refine cm_seq ?_
  refine cm_region ?_
  refine lm_box 3 [.int .i64 _, .int .i64 _, .int .i64 _, .int .i64 _, .slice _ _ _, .int .i64 _] (by kernel_rfl) rfl ?_
  intro b5
  refine lm_box 4 [.int .i64 _, .int .i64 _, .int .i64 _, .int .i64 _] (by kernel_rfl) rfl ?_
  intro b6
  refine lm_box 5 [.int .i64 _, .int .i64 _] (by kernel_rfl) rfl ?_
  intro b7
  refine lm_alloc 6 [.int .i64 0, .int .i64 0, .int .i64 0, .int .i64 0, .slice none 0 0, .int .i64 0] (v := .agg #[.int .i64 0, .int .i64 0, .int .i64 0, .int .i64 0, .slice none 0 0, .int .i64 0]) (by kernel_rfl) (by kernel_rfl) rfl ?_
  intro b8
  refine lm_val 7 (by kernel_rfl) (fun w1 c1 => (op_assign (v := .int .i64 _) rfl)) ?_
  refine lm_nil ?_
  refine xm_next ?_
  refine cm_seq ?_
  refine cm_seq ?_
  refine cm_region ?_
  refine lm_val 11 (by kernel_rfl) (fun w1 c1 => (op_loadR [.int .i64 _, .int .i64 _, .int .i64 _, .int .i64 _] rfl (by kernel_rfl) (c1.cells 2 rfl rfl))) ?_
  refine lm_call 12 (V := (fun (r : Int) (_u : Unit) => .int .i64 r)) (HR := (fun (_r : Int) (_u : Unit) => [])) (by kernel_rfl) (fun w1 => op_call (by kernel_rfl)) (fun r1 hr1 w1 c1 => m_complaint_Check_ok N w1 p1  r1 hr1) ?_
  intro r9 u10
  refine lm_val 8 (by kernel_rfl) (fun w1 c1 => (op_assign (v := .int .i64 _) rfl)) ?_
  refine lm_nil ?_
  refine xm_next ?_
  refine cm_seq ?_
  refine cm_region ?_
  refine lm_val 13 (by kernel_rfl) (fun w1 c1 => (op_move (v := .int .i64 _) rfl)) ?_
  refine lm_val 14 (by kernel_rfl) (fun w1 c1 => (op_neq rfl rfl)) ?_
  refine lm_nil ?_
  refine xm_next ?_
  refine cm_cond (by kernel_rfl) rfl (fun h11 => ?_) (fun h11 => ?_)
  · skip
    refine cm_seq ?_
    refine cm_region ?_
    refine lm_val 15 (by kernel_rfl) (fun w1 c1 => (op_build (z := [.int .i64 0, .int .i64 0, .int .i64 0, .int .i64 0, .slice none 0 0, .int .i64 0]) (tab := [(0, 1), (1, 1), (2, 2), (4, 1), (5, 1)]) (cs := [.int .i64 _, .int .i64 _, .int .i64 _, .int .i64 _, .slice _ _ _, .int .i64 _]) [] (by kernel_rfl) (by kernel_rfl) fillOk_nil rfl)) ?_
    refine lm_val 16 (by kernel_rfl) (fun w1 c1 => (op_move (v := .int .i64 _) rfl)) ?_
    refine lm_storeA 0 [.int .i64 _, .int .i64 _, .int .i64 _, .int .i64 _, .slice _ _ _, .int .i64 _] [_, _, _, _, _, _] (H' := [blkE _ _ [_, _, _, _, _, _], _, _, _]) (by kernel_rfl) rfl rfl (by kernel_rfl) rfl rfl (by kernel_rfl) rfl rfl ?_
    refine lm_val 7 (by kernel_rfl) (fun w1 c1 => (op_assign (v := .int .i64 _) rfl)) ?_
    refine lm_nil ?_
    refine xm_next ?_
    refine cm_ret ?_
    refine xm_thenR ?_
    refine xm_nilrow 55 5 encApiItem ?_
    exact xm_retCT rfl (by kernel_rfl) (show _ = Value.pointer (some ⟨_, 0, none⟩) from rfl) (by kernel_rfl) (fun w1 c1 => c1.cells 1 (ds := [.int .i64 _, .int .i64 _, .int .i64 _, .int .i64 _, .slice _ _ _, .int .i64 _]) rfl rfl) (by kernel_rfl) (show _ = Value.int .i64 _ from rfl) fun w1 c1 => ⟨(none, 0, 0), rfl, hsub [0] (by kernel_rfl) rfl w1 c1⟩
  · skip
    refine cm_skip ?_
    refine xm_next ?_
    refine cm_seq ?_
    refine cm_seq ?_
    refine cm_region ?_
    refine lm_val 17 (by kernel_rfl) (fun w1 c1 => (op_fieldL (m := 0) (k := 0) rfl (by kernel_rfl) rfl)) ?_
    refine lm_val 18 (by kernel_rfl) (fun w1 c1 => (op_load rfl (by kernel_rfl) (c1.cell 2 (u := .int .i64 _) rfl rfl))) ?_
    refine lm_val 19 (by kernel_rfl) (fun w1 c1 => (op_fieldL (m := 0) (k := 0) rfl (by kernel_rfl) rfl)) ?_
    refine lm_val 20 (by kernel_rfl) (fun w1 c1 => (op_load rfl (by kernel_rfl) (c1.cell 3 (u := .int .i64 _) rfl rfl))) ?_
    refine lm_val 21 (by kernel_rfl) (fun w1 c1 => (op_neq rfl rfl)) ?_
    refine lm_nil ?_
    refine xm_next ?_
    refine cm_cond (by kernel_rfl) rfl (fun h12 => ?_) (fun h12 => ?_)
    · skip
      refine cm_seq ?_
      refine cm_region ?_
      refine lm_val 22 (by kernel_rfl) (fun w1 c1 => (op_build (z := [.int .i64 0, .int .i64 0, .int .i64 0, .int .i64 0, .slice none 0 0, .int .i64 0]) (tab := [(0, 1), (1, 1), (2, 2), (4, 1), (5, 1)]) (cs := [.int .i64 _, .int .i64 _, .int .i64 _, .int .i64 _, .slice _ _ _, .int .i64 _]) [] (by kernel_rfl) (by kernel_rfl) fillOk_nil rfl)) ?_
      refine lm_storeA 0 [.int .i64 _, .int .i64 _, .int .i64 _, .int .i64 _, .slice _ _ _, .int .i64 _] [_, _, _, _, _, _] (H' := [blkE _ _ [_, _, _, _, _, _], _, _, _]) (by kernel_rfl) rfl rfl (by kernel_rfl) rfl rfl (by kernel_rfl) rfl rfl ?_
      refine lm_val 7 (by kernel_rfl) (fun w1 c1 => (op_assign (v := .int .i64 _) rfl)) ?_
      refine lm_nil ?_
      refine xm_next ?_
      refine cm_ret ?_
      refine xm_thenR ?_
      refine xm_nilrow 55 5 encApiItem ?_
      exact xm_retCT rfl (by kernel_rfl) (show _ = Value.pointer (some ⟨_, 0, none⟩) from rfl) (by kernel_rfl) (fun w1 c1 => c1.cells 1 (ds := [.int .i64 _, .int .i64 _, .int .i64 _, .int .i64 _, .slice _ _ _, .int .i64 _]) rfl rfl) (by kernel_rfl) (show _ = Value.int .i64 _ from rfl) fun w1 c1 => ⟨(none, 0, 0), rfl, hsub [0] (by kernel_rfl) rfl w1 c1⟩
    · skip
      refine cm_skip ?_
      refine xm_next ?_
      refine cm_seq ?_
      refine cm_seq ?_
      refine cm_region ?_
      refine lm_val 23 (by kernel_rfl) (fun w1 c1 => (op_fieldL (m := 1) (k := 1) rfl (by kernel_rfl) rfl)) ?_
      refine lm_val 24 (by kernel_rfl) (fun w1 c1 => (op_load rfl (by kernel_rfl) (c1.cell 1 (u := .int .i64 _) rfl rfl))) ?_
      refine lm_val 25 (by kernel_rfl) (fun w1 c1 => (op_neq rfl rfl)) ?_
      refine lm_nil ?_
      refine xm_next ?_
      refine cm_cond (by kernel_rfl) rfl (fun h13 => ?_) (fun h13 => ?_)
      · skip
        refine cm_seq ?_
        refine cm_region ?_
        refine lm_val 26 (by kernel_rfl) (fun w1 c1 => (op_build (z := [.int .i64 0, .int .i64 0, .int .i64 0, .int .i64 0, .slice none 0 0, .int .i64 0]) (tab := [(0, 1), (1, 1), (2, 2), (4, 1), (5, 1)]) (cs := [.int .i64 _, .int .i64 _, .int .i64 _, .int .i64 _, .slice _ _ _, .int .i64 _]) [] (by kernel_rfl) (by kernel_rfl) fillOk_nil rfl)) ?_
        refine lm_storeA 0 [.int .i64 _, .int .i64 _, .int .i64 _, .int .i64 _, .slice _ _ _, .int .i64 _] [_, _, _, _, _, _] (H' := [blkE _ _ [_, _, _, _, _, _], _, _, _]) (by kernel_rfl) rfl rfl (by kernel_rfl) rfl rfl (by kernel_rfl) rfl rfl ?_
        refine lm_val 7 (by kernel_rfl) (fun w1 c1 => (op_assign (v := .int .i64 _) rfl)) ?_
        refine lm_nil ?_
        refine xm_next ?_
        refine cm_ret ?_
        refine xm_thenR ?_
        refine xm_nilrow 55 5 encApiItem ?_
        exact xm_retCT rfl (by kernel_rfl) (show _ = Value.pointer (some ⟨_, 0, none⟩) from rfl) (by kernel_rfl) (fun w1 c1 => c1.cells 1 (ds := [.int .i64 _, .int .i64 _, .int .i64 _, .int .i64 _, .slice _ _ _, .int .i64 _]) rfl rfl) (by kernel_rfl) (show _ = Value.int .i64 _ from rfl) fun w1 c1 => ⟨(none, 0, 0), rfl, hsub [0] (by kernel_rfl) rfl w1 c1⟩
      · skip
        refine cm_skip ?_
        refine xm_next ?_
        refine cm_seq ?_
        refine cm_region ?_
        refine lm_val 28 (by kernel_rfl) (fun w1 c1 => (op_loadR [.int .i64 _, .int .i64 _, .int .i64 _, .int .i64 _, .slice _ _ _, .int .i64 _] rfl (by kernel_rfl) (c1.cells 3 rfl rfl))) ?_
        refine lm_val 29 (by kernel_rfl) (fun w1 c1 => (op_loadR [.int .i64 _, .int .i64 _, .int .i64 _, .int .i64 _] rfl (by kernel_rfl) (c1.cells 2 rfl rfl))) ?_
        refine lm_call 30 (V := (fun (r : ApiItem × Bool) (_u : Unit) => .tuple #[.agg #[.int .i64 r.1.Kind, .int .i64 r.1.Ref, .int .i64 r.1.Count, .int .i64 r.1.Price, .int .i64 r.1.Amount], .bool r.2])) (HR := (fun (_r : ApiItem × Bool) (_u : Unit) => [])) (by kernel_rfl) (fun w1 => op_call (by kernel_rfl)) (fun r1 hr1 w1 c1 => m_complaint_disputed_ok N w1 p0 p1 A_p01 n_p01 c_p01 (hr_p01.old c1) hz_p01 r1 hr1) ?_
        intro r14 u15
        refine lm_val 27 (by kernel_rfl) (fun w1 c1 => (op_move (v := .tuple _) rfl)) ?_
        refine lm_val 31 (by kernel_rfl) (fun w1 c1 => (op_extract (v := .agg _) rfl rfl)) ?_
        refine lm_val 32 (by kernel_rfl) (fun w1 c1 => (op_extract (v := .bool _) rfl rfl)) ?_
        refine lm_alloc 9 [.int .i64 0, .int .i64 0, .int .i64 0, .int .i64 0, .int .i64 0] (v := .agg #[.int .i64 0, .int .i64 0, .int .i64 0, .int .i64 0, .int .i64 0]) (by kernel_rfl) (by kernel_rfl) rfl ?_
        intro b16
        refine lm_storeA 0 [.int .i64 _, .int .i64 _, .int .i64 _, .int .i64 _, .int .i64 _] [_, _, _, _, _] (H' := [blkE _ _ [_, _, _, _, _], _, _, _, _]) (by kernel_rfl) rfl rfl (by kernel_rfl) rfl rfl (by kernel_rfl) rfl rfl ?_
        refine lm_val 10 (by kernel_rfl) (fun w1 c1 => (op_assign (v := .bool _) rfl)) ?_
        refine lm_nil ?_
        refine xm_next ?_
        refine cm_seq ?_
        refine cm_seq ?_
        refine cm_region ?_
        refine lm_val 33 (by kernel_rfl) (fun w1 c1 => (op_move (v := .bool _) rfl)) ?_
        refine lm_val 34 (by kernel_rfl) (fun w1 c1 => (op_not rfl)) ?_
        refine lm_nil ?_
        refine xm_next ?_
        refine cm_condB (by kernel_rfl) rfl (fun h17 => ?_) (fun h17 => ?_)
        · skip
          refine cm_seq ?_
          refine cm_region ?_
          refine lm_val 35 (by kernel_rfl) (fun w1 c1 => (op_build (z := [.int .i64 0, .int .i64 0, .int .i64 0, .int .i64 0, .slice none 0 0, .int .i64 0]) (tab := [(0, 1), (1, 1), (2, 2), (4, 1), (5, 1)]) (cs := [.int .i64 _, .int .i64 _, .int .i64 _, .int .i64 _, .slice _ _ _, .int .i64 _]) [] (by kernel_rfl) (by kernel_rfl) fillOk_nil rfl)) ?_
          refine lm_storeA 1 [.int .i64 _, .int .i64 _, .int .i64 _, .int .i64 _, .slice _ _ _, .int .i64 _] [_, _, _, _, _, _] (H' := [_, blkE _ _ [_, _, _, _, _, _], _, _, _]) (by kernel_rfl) rfl rfl (by kernel_rfl) rfl rfl (by kernel_rfl) rfl rfl ?_
          refine lm_val 7 (by kernel_rfl) (fun w1 c1 => (op_assign (v := .int .i64 _) rfl)) ?_
          refine lm_nil ?_
          refine xm_next ?_
          refine cm_ret ?_
          refine xm_thenR ?_
          refine xm_nilrow 55 5 encApiItem ?_
          exact xm_retCT rfl (by kernel_rfl) (show _ = Value.pointer (some ⟨_, 0, none⟩) from rfl) (by kernel_rfl) (fun w1 c1 => c1.cells 2 (ds := [.int .i64 _, .int .i64 _, .int .i64 _, .int .i64 _, .slice _ _ _, .int .i64 _]) rfl rfl) (by kernel_rfl) (show _ = Value.int .i64 _ from rfl) fun w1 c1 => ⟨(none, 0, 0), rfl, hsub [0] (by kernel_rfl) rfl w1 c1⟩
        · skip
          refine cm_skip ?_
          refine xm_next ?_
          refine cm_seq ?_
          refine cm_region ?_
          refine lm_val 36 (by kernel_rfl) (fun w1 c1 => (op_loadR [.int .i64 _, .int .i64 _, .int .i64 _, .int .i64 _, .slice _ _ _, .int .i64 _] rfl (by kernel_rfl) (c1.cells 4 rfl rfl))) ?_
          refine lm_val 37 (by kernel_rfl) (fun w1 c1 => (op_fieldL (m := 1) (k := 1) rfl (by kernel_rfl) rfl)) ?_
          refine lm_val 38 (by kernel_rfl) (fun w1 c1 => (op_load rfl (by kernel_rfl) (c1.cell 0 (u := .int .i64 _) rfl rfl))) ?_
          refine lm_val 39 (by kernel_rfl) (fun w1 c1 => (op_fieldL (m := 0) (k := 0) rfl (by kernel_rfl) rfl)) ?_
          refine lm_val 40 (by kernel_rfl) (fun w1 c1 => (op_load rfl (by kernel_rfl) (c1.cell 2 (u := .int .i64 _) rfl rfl))) ?_
          refine lm_call 41 (V := (fun (r : ApiBill × Int) (u : (Option Addr) × Nat × Nat) => .tuple #[.agg #[.int .i64 r.1.ID, .int .i64 r.1.Household, .int .i64 r.1.When.From, .int .i64 r.1.When.To, .slice u.1 u.2.1 u.2.2, .int .i64 r.1.Total], .int .i64 r.2])) (HR := (fun (r : ApiBill × Int) (u : (Option Addr) × Nat × Nat) => [ownE 55 5 encApiItem u.1 u.2.1 u.2.2 r.1.Items])) (by kernel_rfl) (fun w1 => op_call (by kernel_rfl)) (fun r1 hr1 w1 c1 => m_bill_Credit_ok N w1 p0 r14.1.Ref p2.Credit A_p01 n_p01 c_p01 (hr_p01.old c1) hz_p01 r1 hr1) ?_
          intro r18 u19
          refine lm_val 42 (by kernel_rfl) (fun w1 c1 => (op_extract (v := .agg _) rfl rfl)) ?_
          refine lm_val 43 (by kernel_rfl) (fun w1 c1 => (op_extract (v := .int .i64 _) rfl rfl)) ?_
          refine lm_storeA 2 [.int .i64 _, .int .i64 _, .int .i64 _, .int .i64 _, .slice _ _ _, .int .i64 _] [_, _, _, _, _, _] (H' := [_, _, blkE _ _ [_, _, _, _, _, _], _, _, _]) (by kernel_rfl) rfl rfl (by kernel_rfl) rfl rfl (by kernel_rfl) rfl rfl ?_
          refine lm_val 7 (by kernel_rfl) (fun w1 c1 => (op_assign (v := .int .i64 _) rfl)) ?_
          refine lm_nil ?_
          refine xm_next ?_
          refine cm_ret ?_
          exact xm_retCT rfl (by kernel_rfl) (show _ = Value.pointer (some ⟨_, 0, none⟩) from rfl) (by kernel_rfl) (fun w1 c1 => c1.cells 2 (ds := [.int .i64 _, .int .i64 _, .int .i64 _, .int .i64 _, .slice _ _ _, .int .i64 _]) rfl rfl) (by kernel_rfl) (show _ = Value.int .i64 _ from rfl) fun w1 c1 => ⟨(u19.1, u19.2.1, u19.2.2), rfl, hsub [0] (by kernel_rfl) rfl w1 c1⟩
/-- recyclingref57.disputed -/
def m_recyclingref57_disputed (_N : Nat) (p0 : ApiBill) (p1 : ApiComplaint) : Option (ApiItem × Bool) :=
  (if ((decide (p1.Item < 0)) || (decide ((List.length p0.Items : Int) ≤ p1.Item))) = true then
    some (((ApiItem.mk 0 0 0 0 0), false))
  else
    ck ((0 : Int) ≤ p1.Item ∧ p1.Item < (List.length p0.Items : Int)) (
      some (((ix p0.Items p1.Item), ((decide ((ix p0.Items p1.Item).Kind = 2)) || (decide ((ix p0.Items p1.Item).Kind = 3)))))))
set_option maxRecDepth 20000 in
theorem m_recyclingref57_disputed_ok (N : Nat) (w0 : World) (p0 : ApiBill) (p1 : ApiComplaint) (A_p01 : Option Addr) (n_p01 c_p01 : Nat) (hr_p01 : RdE w0 5 encApiItem A_p01 p0.Items) (hz_p01 : SW A_p01 n_p01 c_p01 (List.length p0.Items)) (r : ApiItem × Bool) (hr : m_recyclingref57_disputed N p0 p1 = some r) :
    Calls Try.prog 26 [.agg #[.int .i64 p0.ID, .int .i64 p0.Household, .int .i64 p0.When.From, .int .i64 p0.When.To, .slice A_p01 n_p01 c_p01, .int .i64 p0.Total], .agg #[.int .i64 p1.Bill, .int .i64 p1.Item, .int .i64 p1.At, .int .i64 p1.Kind]].toArray w0 fun x w1 => ∃ u, x = .returned ((fun (r : ApiItem × Bool) (_u : Unit) => .tuple #[.agg #[.int .i64 r.1.Kind, .int .i64 r.1.Ref, .int .i64 r.1.Count, .int .i64 r.1.Price, .int .i64 r.1.Amount], .bool r.2]) r u) ∧ Hs w0 ((fun (_r : ApiItem × Bool) (_u : Unit) => []) r u) w1 := by
  refine calls_cm (n := 34) (R := fun r x w1 => ∃ u, x = .returned ((fun (r : ApiItem × Bool) (_u : Unit) => .tuple #[.agg #[.int .i64 r.1.Kind, .int .i64 r.1.Ref, .int .i64 r.1.Count, .int .i64 r.1.Price, .int .i64 r.1.Amount], .bool r.2]) r u) ∧ Hs w0 ((fun (_r : ApiItem × Bool) (_u : Unit) => []) r u) w1) Try.func26 rfl rfl (Nat.le_of_ble_eq_true rfl) ?_ r hr
  unfold m_recyclingref57_disputed
  refine cm_seq ?_
  refine cm_region ?_
  refine lm_box 2 [.int .i64 _, .int .i64 _, .int .i64 _, .int .i64 _, .slice _ _ _, .int .i64 _] (by kernel_rfl) rfl ?_
  intro b5
  refine lm_box 3 [.int .i64 _, .int .i64 _, .int .i64 _, .int .i64 _] (by kernel_rfl) rfl ?_
  intro b6
  refine lm_alloc 4 [.int .i64 0, .int .i64 0, .int .i64 0, .int .i64 0, .int .i64 0] (v := .agg #[.int .i64 0, .int .i64 0, .int .i64 0, .int .i64 0, .int .i64 0]) (by kernel_rfl) (by kernel_rfl) rfl ?_
  intro b7
  refine lm_val 5 (by kernel_rfl) (fun w1 c1 => (op_assign (v := .bool false) rfl)) ?_
  refine lm_nil ?_
  refine xm_next ?_
  refine cm_seq ?_
  refine cm_seq ?_
  refine cm_cutE [(17, .bool ((decide (p1.Item < 0)) || (decide ((List.length p0.Items : Int) ≤ p1.Item))))] ?_ ?_
  · skip
    refine wq_val 7 (by kernel_rfl) (fun w1 c1 => (op_fieldL (m := 1) (k := 1) rfl (by kernel_rfl) rfl)) ?_
    refine wq_val 8 (by kernel_rfl) (fun w1 c1 => (op_load rfl (by kernel_rfl) (c1.cell 1 (u := .int .i64 _) rfl rfl))) ?_
    refine wq_dec 9 (by kernel_rfl) (fun w1 c1 => (op_lss rfl rfl)) (fun h8 => ?_) (fun h8 => ?_)
    · skip
      refine wq_val 10 (by kernel_rfl) (fun w1 c1 => (op_move (v := .bool true) rfl)) ?_
      refine wq_skip 11 (by kernel_rfl) ?_
      refine wq_skip 12 (by kernel_rfl) ?_
      refine wq_skip 13 (by kernel_rfl) ?_
      refine wq_skip 14 (by kernel_rfl) ?_
      refine wq_skip 15 (by kernel_rfl) ?_
      refine wq_skip 16 (by kernel_rfl) ?_
      refine wq_val 17 (by kernel_rfl) (fun w1 c1 => (op_pick_t (v := .bool true) rfl rfl)) ?_
      exact leaf_q (sub_out 11 _ rfl (by kernel_rfl) ⟨(congrArg Value.bool (by rw [decide_eq_true h8] <;> rfl)), trivial⟩)
    · skip
      refine wq_val 10 (by kernel_rfl) (fun w1 c1 => (op_move (v := .bool false) rfl)) ?_
      refine wq_val 11 (by kernel_rfl) (fun w1 c1 => (op_fieldL (m := 1) (k := 1) rfl (by kernel_rfl) rfl)) ?_
      refine wq_val 12 (by kernel_rfl) (fun w1 c1 => (op_load rfl (by kernel_rfl) (c1.cell 1 (u := .int .i64 _) rfl rfl))) ?_
      refine wq_val 13 (by kernel_rfl) (fun w1 c1 => (op_fieldL (m := 4) (k := 4) rfl (by kernel_rfl) rfl)) ?_
      refine wq_val 14 (by kernel_rfl) (fun w1 c1 => (op_load rfl (by kernel_rfl) (c1.cell 2 (u := .slice _ _ _) rfl rfl))) ?_
      refine wq_val 15 (by kernel_rfl) (fun w1 c1 => (op_lenN rfl (by kernel_rfl) hz_p01.2.2)) ?_
      refine wq_val 16 (by kernel_rfl) (fun w1 c1 => (op_geq rfl rfl)) ?_
      refine wq_val 17 (by kernel_rfl) (fun w1 c1 => (op_pick_f (v := .bool _) rfl rfl)) ?_
      exact leaf_q (sub_out 11 _ rfl (by kernel_rfl) ⟨(congrArg Value.bool (by rw [decide_eq_false h8] <;> rfl)), trivial⟩)
  refine xm_next ?_
  refine cm_condB (by kernel_rfl) rfl (fun h9 => ?_) (fun h9 => ?_)
  · skip
    refine cm_seq ?_
    refine cm_region ?_
    refine lm_val 18 (by kernel_rfl) (fun w1 c1 => (op_build (z := [.int .i64 0, .int .i64 0, .int .i64 0, .int .i64 0, .int .i64 0]) (tab := [(0, 1), (1, 1), (2, 1), (3, 1), (4, 1)]) (cs := [.int .i64 _, .int .i64 _, .int .i64 _, .int .i64 _, .int .i64 _]) [] (by kernel_rfl) (by kernel_rfl) fillOk_nil rfl)) ?_
    refine lm_storeA 0 [.int .i64 _, .int .i64 _, .int .i64 _, .int .i64 _, .int .i64 _] [_, _, _, _, _] (H' := [blkE _ _ [_, _, _, _, _], _, _]) (by kernel_rfl) rfl rfl (by kernel_rfl) rfl rfl (by kernel_rfl) rfl rfl ?_
    refine lm_val 5 (by kernel_rfl) (fun w1 c1 => (op_assign (v := .bool false) rfl)) ?_
    refine lm_nil ?_
    refine xm_next ?_
    refine cm_ret ?_
    refine xm_thenR ?_
    exact xm_retCT rfl (by kernel_rfl) (show _ = Value.pointer (some ⟨_, 0, none⟩) from rfl) (by kernel_rfl) (fun w1 c1 => c1.cells 0 (ds := [.int .i64 _, .int .i64 _, .int .i64 _, .int .i64 _, .int .i64 _]) rfl rfl) (by kernel_rfl) (show _ = Value.bool false from rfl) fun w1 c1 => ⟨(), rfl, hsub [] (by kernel_rfl) rfl w1 c1⟩
  · skip
    refine cm_skip ?_
    refine xm_next ?_
    refine cm_seq ?_
    refine cm_region ?_
    refine lm_val 19 (by kernel_rfl) (fun w1 c1 => (op_fieldL (m := 4) (k := 4) rfl (by kernel_rfl) rfl)) ?_
    refine lm_val 20 (by kernel_rfl) (fun w1 c1 => (op_load rfl (by kernel_rfl) (c1.cell 2 (u := .slice _ _ _) rfl rfl))) ?_
    refine lm_val 21 (by kernel_rfl) (fun w1 c1 => (op_fieldL (m := 1) (k := 1) rfl (by kernel_rfl) rfl)) ?_
    refine lm_val 22 (by kernel_rfl) (fun w1 c1 => (op_load rfl (by kernel_rfl) (c1.cell 1 (u := .int .i64 _) rfl rfl))) ?_
    refine lm_ck (fun h10 => ?_)
    refine lm_val 23 (by kernel_rfl) (fun w1 c1 => (op_indexA 5 rfl rfl (by kernel_rfl) ((hr_p01.old c1).addr h10.1 h10.2) hz_p01.2.2 h10.1 h10.2)) ?_
    refine lm_val 24 (by kernel_rfl) (fun w1 c1 => (op_loadR [.int .i64 ((ix p0.Items p1.Item).Kind), .int .i64 ((ix p0.Items p1.Item).Ref), .int .i64 ((ix p0.Items p1.Item).Count), .int .i64 ((ix p0.Items p1.Item).Price), .int .i64 ((ix p0.Items p1.Item).Amount)] rfl (by kernel_rfl) ((hr_p01.old c1).row h10.1 h10.2))) ?_
    refine lm_alloc 6 [.int .i64 0, .int .i64 0, .int .i64 0, .int .i64 0, .int .i64 0] (v := .agg #[.int .i64 0, .int .i64 0, .int .i64 0, .int .i64 0, .int .i64 0]) (by kernel_rfl) (by kernel_rfl) rfl ?_
    intro b11
    refine lm_storeA 0 [.int .i64 _, .int .i64 _, .int .i64 _, .int .i64 _, .int .i64 _] [_, _, _, _, _] (H' := [blkE _ _ [_, _, _, _, _], _, _, _]) (by kernel_rfl) rfl rfl (by kernel_rfl) rfl rfl (by kernel_rfl) rfl rfl ?_
    refine lm_nil ?_
    refine xm_next ?_
    refine cm_seq ?_
    refine cm_held (ξ := Unit) (fun u19 => [(4, .pointer (some ⟨b7, 0, none⟩)), (5, .bool ((decide ((ix p0.Items p1.Item).Kind = 2)) || (decide ((ix p0.Items p1.Item).Kind = 3))))]) (fun u19 => [blkE b7 55 [.int .i64 ((ix p0.Items p1.Item).Kind), .int .i64 ((ix p0.Items p1.Item).Ref), .int .i64 ((ix p0.Items p1.Item).Count), .int .i64 ((ix p0.Items p1.Item).Price), .int .i64 ((ix p0.Items p1.Item).Amount)]]) [blkE b11 55 [.int .i64 ((ix p0.Items p1.Item).Kind), .int .i64 ((ix p0.Items p1.Item).Ref), .int .i64 ((ix p0.Items p1.Item).Count), .int .i64 ((ix p0.Items p1.Item).Price), .int .i64 ((ix p0.Items p1.Item).Amount)], blkE b6 23 [.int .i64 p1.Bill, .int .i64 p1.Item, .int .i64 p1.At, .int .i64 p1.Kind], blkE b5 32 [.int .i64 p0.ID, .int .i64 p0.Household, .int .i64 p0.When.From, .int .i64 p0.When.To, .slice A_p01 n_p01 c_p01, .int .i64 p0.Total]] 11 (by kernel_rfl) (by rfl) (hsub [0, 2, 3] (by kernel_rfl) (by rfl)) ?_ ?_
    · intro w21 c22
      refine wh_take 0 25 rfl (by kernel_rfl) (by kernel_rfl) (fun w2 c2 => (op_loadR [.int .i64 _, .int .i64 _, .int .i64 _, .int .i64 _, .int .i64 _] rfl (by kernel_rfl) (c2.cells 0 rfl rfl))) (hsub [0, 2, 3] (by kernel_rfl) rfl _ c22) ?_
      refine wh_take 1 26 rfl (by kernel_rfl) (by kernel_rfl) (fun w2 c2 => (op_fieldL (m := 0) (k := 0) rfl (by kernel_rfl) rfl)) (hsub [0, 2, 3] (by kernel_rfl) rfl _ c22) ?_
      refine wh_take 2 27 rfl (by kernel_rfl) (by kernel_rfl) (fun w2 c2 => (op_load rfl (by kernel_rfl) (c2.cell 0 (u := .int .i64 _) rfl rfl))) (hsub [0, 2, 3] (by kernel_rfl) rfl _ c22) ?_
      refine wh_dec 3 28 rfl (by kernel_rfl) (by kernel_rfl) (fun w2 c2 => (op_eql rfl rfl)) (hsub [0, 2, 3] (by kernel_rfl) rfl _ c22) (fun h23 => ?_) (fun h23 => ?_)
      · skip
        refine wh_take 4 29 rfl (by kernel_rfl) (by kernel_rfl) (fun w2 c2 => (op_move (v := .bool true) rfl)) (hsub [0, 2, 3] (by kernel_rfl) rfl _ c22) ?_
        refine wh_skip 5 30 rfl (by kernel_rfl) (by kernel_rfl) (hsub [0, 2, 3] (by kernel_rfl) rfl _ c22) ?_
        refine wh_skip 6 31 rfl (by kernel_rfl) (by kernel_rfl) (hsub [0, 2, 3] (by kernel_rfl) rfl _ c22) ?_
        refine wh_skip 7 32 rfl (by kernel_rfl) (by kernel_rfl) (hsub [0, 2, 3] (by kernel_rfl) rfl _ c22) ?_
        refine wh_take 8 33 rfl (by kernel_rfl) (by kernel_rfl) (fun w2 c2 => (op_pick_t (v := .bool true) rfl rfl)) (hsub [0, 2, 3] (by kernel_rfl) rfl _ c22) ?_
        refine wh_ready [9] (by kernel_rfl) rfl ⟨?_, trivial⟩
        refine ws_storeA 1 [.int .i64 _, .int .i64 _, .int .i64 _, .int .i64 _, .int .i64 _] [_, _, _, _, _] rfl (by kernel_rfl) rfl rfl (by kernel_rfl) rfl rfl (by kernel_rfl) rfl (H' := [_, blkE _ _ [_, _, _, _, _], _, _]) rfl c22 ?_
        intro w24 c25
        refine ⟨(hsub [0, 2, 3] (by kernel_rfl) rfl _ c25), ?_⟩
        refine wh_take 10 5 rfl (by kernel_rfl) (by kernel_rfl) (fun w2 c2 => (op_assign (v := .bool true) rfl)) (hsub [0, 2, 3] (by kernel_rfl) rfl _ c25) ?_
        exact wh_done () (by kernel_rfl) (sub_cons (by kernel_rfl) rfl (sub_cons (by kernel_rfl) (congrArg Value.bool (by rw [decide_eq_true h23] <;> rfl)) sub_nil)) (hsub [1] (by kernel_rfl) rfl _ c25)
      · skip
        refine wh_take 4 29 rfl (by kernel_rfl) (by kernel_rfl) (fun w2 c2 => (op_move (v := .bool false) rfl)) (hsub [0, 2, 3] (by kernel_rfl) rfl _ c22) ?_
        refine wh_take 5 30 rfl (by kernel_rfl) (by kernel_rfl) (fun w2 c2 => (op_fieldL (m := 0) (k := 0) rfl (by kernel_rfl) rfl)) (hsub [0, 2, 3] (by kernel_rfl) rfl _ c22) ?_
        refine wh_take 6 31 rfl (by kernel_rfl) (by kernel_rfl) (fun w2 c2 => (op_load rfl (by kernel_rfl) (c2.cell 0 (u := .int .i64 _) rfl rfl))) (hsub [0, 2, 3] (by kernel_rfl) rfl _ c22) ?_
        refine wh_take 7 32 rfl (by kernel_rfl) (by kernel_rfl) (fun w2 c2 => (op_eql rfl rfl)) (hsub [0, 2, 3] (by kernel_rfl) rfl _ c22) ?_
        refine wh_take 8 33 rfl (by kernel_rfl) (by kernel_rfl) (fun w2 c2 => (op_pick_f (v := .bool _) rfl rfl)) (hsub [0, 2, 3] (by kernel_rfl) rfl _ c22) ?_
        refine wh_ready [9] (by kernel_rfl) rfl ⟨?_, trivial⟩
        refine ws_storeA 1 [.int .i64 _, .int .i64 _, .int .i64 _, .int .i64 _, .int .i64 _] [_, _, _, _, _] rfl (by kernel_rfl) rfl rfl (by kernel_rfl) rfl rfl (by kernel_rfl) rfl (H' := [_, blkE _ _ [_, _, _, _, _], _, _]) rfl c22 ?_
        intro w26 c27
        refine ⟨(hsub [0, 2, 3] (by kernel_rfl) rfl _ c27), ?_⟩
        refine wh_take 10 5 rfl (by kernel_rfl) (by kernel_rfl) (fun w2 c2 => (op_assign (v := .bool _) rfl)) (hsub [0, 2, 3] (by kernel_rfl) rfl _ c27) ?_
        exact wh_done () (by kernel_rfl) (sub_cons (by kernel_rfl) rfl (sub_cons (by kernel_rfl) (congrArg Value.bool (by rw [decide_eq_false h23] <;> rfl)) sub_nil)) (hsub [1] (by kernel_rfl) rfl _ c27)
    intro u19
    refine xm_next ?_
    refine cm_ret ?_
    exact xm_retCT rfl (by kernel_rfl) (show _ = Value.pointer (some ⟨_, 0, none⟩) from rfl) (by kernel_rfl) (fun w1 c1 => c1.cells 0 (ds := [.int .i64 _, .int .i64 _, .int .i64 _, .int .i64 _, .int .i64 _]) rfl rfl) (by kernel_rfl) (show _ = Value.bool _ from rfl) fun w1 c1 => ⟨(), rfl, hsub [] (by kernel_rfl) rfl w1 c1⟩
/-- recyclingref54.money -/
def m_recyclingref54_money (_N : Nat) (p0 : Int) : Option (Bool) :=
  some (((decide (-1000000000000 ≤ p0)) && (decide (p0 ≤ 1000000000000))))
set_option maxRecDepth 20000 in
theorem m_recyclingref54_money_ok (N : Nat) (w0 : World) (p0 : Int)   (r : Bool) (hr : m_recyclingref54_money N p0 = some r) :
    Calls Try.prog 40 [.int .i64 p0].toArray w0 fun x w1 => ∃ u, x = .returned ((fun (r : Bool) (_u : Unit) => .bool r) r u) ∧ Hs w0 ((fun (_r : Bool) (_u : Unit) => []) r u) w1 := by
  refine calls_cm (n := 9) (R := fun r x w1 => ∃ u, x = .returned ((fun (r : Bool) (_u : Unit) => .bool r) r u) ∧ Hs w0 ((fun (_r : Bool) (_u : Unit) => []) r u) w1) Try.func40 rfl rfl (Nat.le_of_ble_eq_true rfl) ?_ r hr
  unfold m_recyclingref54_money
  refine cm_seq ?_
  refine cm_region ?_
  refine lm_val 2 (by kernel_rfl) (fun w1 c1 => (op_assign (v := .bool false) rfl)) ?_
  refine lm_nil ?_
  refine xm_next ?_
  refine cm_seq ?_
  refine cm_cutE [(2, .bool ((decide (-1000000000000 ≤ p0)) && (decide (p0 ≤ 1000000000000))))] ?_ ?_
  · skip
    refine wq_val 3 (by kernel_rfl) (fun w1 c1 => (op_move (v := .int .i64 _) rfl)) ?_
    refine wq_dec 4 (by kernel_rfl) (fun w1 c1 => (op_geq rfl rfl)) (fun h5 => ?_) (fun h5 => ?_)
    · skip
      refine wq_val 5 (by kernel_rfl) (fun w1 c1 => (op_move (v := .bool true) rfl)) ?_
      refine wq_val 6 (by kernel_rfl) (fun w1 c1 => (op_move (v := .int .i64 _) rfl)) ?_
      refine wq_val 7 (by kernel_rfl) (fun w1 c1 => (op_leq rfl rfl)) ?_
      refine wq_val 8 (by kernel_rfl) (fun w1 c1 => (op_pick_t (v := .bool _) rfl rfl)) ?_
      refine wq_val 2 (by kernel_rfl) (fun w1 c1 => (op_assign (v := .bool _) rfl)) ?_
      exact leaf_q (sub_out 7 _ rfl (by kernel_rfl) ⟨(congrArg Value.bool (by rw [decide_eq_true h5] <;> rfl)), trivial⟩)
    · skip
      refine wq_val 5 (by kernel_rfl) (fun w1 c1 => (op_move (v := .bool false) rfl)) ?_
      refine wq_skip 6 (by kernel_rfl) ?_
      refine wq_skip 7 (by kernel_rfl) ?_
      refine wq_val 8 (by kernel_rfl) (fun w1 c1 => (op_pick_f (v := .bool false) rfl rfl)) ?_
      refine wq_val 2 (by kernel_rfl) (fun w1 c1 => (op_assign (v := .bool false) rfl)) ?_
      exact leaf_q (sub_out 7 _ rfl (by kernel_rfl) ⟨(congrArg Value.bool (by rw [decide_eq_false h5] <;> rfl)), trivial⟩)
  refine xm_next ?_
  refine cm_ret ?_
  exact xm_retT rfl (by kernel_rfl) (show _ = Value.bool _ from rfl) fun w1 c1 => ⟨(), rfl, hsub [] (by kernel_rfl) rfl w1 c1⟩
/-- recyclingref54.Charged -/
def m_recyclingref54_Charged (N : Nat) (p0 : (List ApiItem)) (p1 : Int) : Option (Int × Bool) :=
  (andThen
    (loopM (fun (s133 : Int × Bool × Int) =>
      (if s133.2.2 < (List.length p0 : Int) then
        (andThen
          (ck ((0 : Int) ≤ s133.2.2 ∧ s133.2.2 < (List.length p0 : Int)) (
            ck (decide ((ix p0 s133.2.2).Ref = p1) = true → (0 : Int) ≤ s133.2.2 ∧ s133.2.2 < (List.length p0 : Int)) (
              ck (((decide ((ix p0 s133.2.2).Ref = p1)) && (!(decide ((ix p0 s133.2.2).Kind = 2)))) = true → (0 : Int) ≤ s133.2.2 ∧ s133.2.2 < (List.length p0 : Int)) (
                (if ((decide ((ix p0 s133.2.2).Ref = p1)) && ((decide ((ix p0 s133.2.2).Kind = 2)) || (decide ((ix p0 s133.2.2).Kind = 3)))) = true then
                  ck ((0 : Int) ≤ s133.2.2 ∧ s133.2.2 < (List.length p0 : Int)) (
                    ck (I64 (s133.1 + ((ix p0 s133.2.2).Amount))) (
                      ck ((!s133.2.1) = true → (0 : Int) ≤ s133.2.2 ∧ s133.2.2 < (List.length p0 : Int)) (
                        some (.next ((s133.1 + ((ix p0 s133.2.2).Amount)), (s133.2.1 || (decide ((ix p0 s133.2.2).Kind = 2))))))))
                else
                  some (.next (s133.1, s133.2.1)))))))
        fun (s146 : Int × Bool) =>
          ck (I64 (s133.2.2 + (1 : Int))) (
            some (.next (s146.1, s146.2, (s133.2.2 + (1 : Int))))))
      else
        some (.done (.next (s133.1, s133.2.1))))) N ((0 : Int), false, (0 : Int)))
  fun (s81 : Int × Bool) =>
    some ((s81.1, s81.2)))
set_option maxHeartbeats 2000000 in
set_option maxRecDepth 20000 in
theorem m_recyclingref54_Charged_ok (N : Nat) (w0 : World) (p0 : (List ApiItem)) (p1 : Int) (A_p0 : Option Addr) (n_p0 c_p0 : Nat) (hr_p0 : RdE w0 5 encApiItem A_p0 p0) (hz_p0 : SW A_p0 n_p0 c_p0 (List.length p0)) (r : Int × Bool) (hr : m_recyclingref54_Charged N p0 p1 = some r) :
    Calls Try.prog 41 [.slice A_p0 n_p0 c_p0, .int .i64 p1].toArray w0 fun x w1 => ∃ u, x = .returned ((fun (r : Int × Bool) (_u : Unit) => .tuple #[.int .i64 r.1, .bool r.2]) r u) ∧ Hs w0 ((fun (_r : Int × Bool) (_u : Unit) => []) r u) w1 := by
  refine calls_cm (n := 56) (R := fun r x w1 => ∃ u, x = .returned ((fun (r : Int × Bool) (_u : Unit) => .tuple #[.int .i64 r.1, .bool r.2]) r u) ∧ Hs w0 ((fun (_r : Int × Bool) (_u : Unit) => []) r u) w1) Try.func41 rfl rfl (Nat.le_of_ble_eq_true rfl) ?_ r hr
  unfold m_recyclingref54_Charged
  refine cm_seq ?_
  refine cm_region ?_
  refine lm_val 4 (by kernel_rfl) (fun w1 c1 => (op_assign (v := .int .i64 _) rfl)) ?_
  refine lm_val 5 (by kernel_rfl) (fun w1 c1 => (op_assign (v := .bool false) rfl)) ?_
  refine lm_nil ?_
  refine xm_next ?_
  refine cm_seq ?_
  refine cm_region ?_
  refine lm_val 6 (by kernel_rfl) (fun w1 c1 => (op_assign (v := .int .i64 _) rfl)) ?_
  refine lm_val 7 (by kernel_rfl) (fun w1 c1 => (op_assign (v := .bool false) rfl)) ?_
  refine lm_nil ?_
  refine xm_next ?_
  refine cm_join (σ := Int × Bool) (ξ := Unit) (fun s81 u82 => [(6, .int .i64 s81.1), (7, .bool s81.2)]) (fun s81 u82 => []) ?_ ?_
  · skip
    refine cm_seq ?_
    refine cm_region ?_
    refine lm_val 8 (by kernel_rfl) (fun w1 c1 => (op_assign (v := .int .i64 _) rfl)) ?_
    refine lm_nil ?_
    refine xm_next ?_
    refine cm_block ?_
    refine cm_loop (σ := Int × Bool × Int) (ξ := Unit) (fun s133 u134 => [(0, .slice A_p0 n_p0 c_p0), (1, .int .i64 p1), (6, .int .i64 s133.1), (7, .bool s133.2.1), (8, .int .i64 s133.2.2)]) (fun s133 u134 => []) () ?_ ?_ ?_
    · exact (sub_cons (by kernel_rfl) rfl (sub_cons (by kernel_rfl) rfl (sub_cons (by kernel_rfl) rfl (sub_cons (by kernel_rfl) rfl (sub_cons (by kernel_rfl) rfl sub_nil)))))
    · exact hsub [] (by kernel_rfl) rfl
    intro s133 u134
    refine cm_seq ?_
    refine cm_seq ?_
    refine cm_region ?_
    refine lm_val 9 (by kernel_rfl) (fun w1 c1 => (op_move (v := .int .i64 _) rfl)) ?_
    refine lm_val 10 (by kernel_rfl) (fun w1 c1 => (op_move (v := .slice _ _ _) rfl)) ?_
    refine lm_val 11 (by kernel_rfl) (fun w1 c1 => (op_lenN rfl (by kernel_rfl) hz_p0.2.2)) ?_
    refine lm_val 12 (by kernel_rfl) (fun w1 c1 => (op_lss rfl rfl)) ?_
    refine lm_nil ?_
    refine xm_next ?_
    refine cm_cond (by kernel_rfl) rfl (fun h135 => ?_) (fun h135 => ?_)
    · skip
      refine cm_skip ?_
      refine xm_next ?_
      refine cm_join (σ := Int × Bool) (ξ := Unit) (fun s146 u147 => [(0, .slice A_p0 n_p0 c_p0), (1, .int .i64 p1), (6, .int .i64 s146.1), (7, .bool s146.2), (8, .int .i64 s133.2.2)]) (fun s146 u147 => []) ?_ ?_
      · skip
        refine cm_block ?_
        refine cm_seq ?_
        refine cm_ck (fun h148 => ?_)
        refine cm_ck (fun h149 => ?_)
        refine cm_ck (fun h150 => ?_)
        refine cm_cutE [(37, .bool ((decide ((ix p0 s133.2.2).Ref = p1)) && ((decide ((ix p0 s133.2.2).Kind = 2)) || (decide ((ix p0 s133.2.2).Kind = 3)))))] ?_ ?_
        · skip
          refine wq_val 15 (by kernel_rfl) (fun w1 c1 => (op_move (v := .slice _ _ _) rfl)) ?_
          refine wq_val 16 (by kernel_rfl) (fun w1 c1 => (op_move (v := .int .i64 _) rfl)) ?_
          refine wq_val 17 (by kernel_rfl) (fun w1 c1 => (op_indexA 5 rfl rfl (by kernel_rfl) ((hr_p0.old c1).addr h148.1 h148.2) hz_p0.2.2 h148.1 h148.2)) ?_
          refine wq_val 18 (by kernel_rfl) (fun w1 c1 => (op_field (m := 1) rfl (by kernel_rfl))) ?_
          refine wq_val 19 (by kernel_rfl) (fun w1 c1 => (op_load (v := .int .i64 ((ix p0 s133.2.2).Ref)) rfl (by kernel_rfl) ((hr_p0.old c1).cell (j := 1) h148.1 h148.2 rfl))) ?_
          refine wq_val 20 (by kernel_rfl) (fun w1 c1 => (op_move (v := .int .i64 _) rfl)) ?_
          refine wq_dec 21 (by kernel_rfl) (fun w1 c1 => (op_eql rfl rfl)) (fun h151 => ?_) (fun h151 => ?_)
          · skip
            refine wq_val 22 (by kernel_rfl) (fun w1 c1 => (op_move (v := .bool true) rfl)) ?_
            refine wq_val 23 (by kernel_rfl) (fun w1 c1 => (op_move (v := .slice _ _ _) rfl)) ?_
            refine wq_val 24 (by kernel_rfl) (fun w1 c1 => (op_move (v := .int .i64 _) rfl)) ?_
            refine wq_val 25 (by kernel_rfl) (fun w1 c1 => (op_indexA 5 rfl rfl (by kernel_rfl) ((hr_p0.old c1).addr (h149 (by rw [decide_eq_true h151] <;> rfl)).1 (h149 (by rw [decide_eq_true h151] <;> rfl)).2) hz_p0.2.2 (h149 (by rw [decide_eq_true h151] <;> rfl)).1 (h149 (by rw [decide_eq_true h151] <;> rfl)).2)) ?_
            refine wq_val 26 (by kernel_rfl) (fun w1 c1 => (op_field0 rfl (by kernel_rfl))) ?_
            refine wq_val 27 (by kernel_rfl) (fun w1 c1 => (op_load (v := .int .i64 ((ix p0 s133.2.2).Kind)) rfl (by kernel_rfl) ((hr_p0.old c1).cell0 (h149 (by rw [decide_eq_true h151] <;> rfl)).1 (h149 (by rw [decide_eq_true h151] <;> rfl)).2 rfl))) ?_
            refine wq_dec 28 (by kernel_rfl) (fun w1 c1 => (op_eql rfl rfl)) (fun h152 => ?_) (fun h152 => ?_)
            · skip
              refine wq_val 29 (by kernel_rfl) (fun w1 c1 => (op_move (v := .bool true) rfl)) ?_
              refine wq_skip 30 (by kernel_rfl) ?_
              refine wq_skip 31 (by kernel_rfl) ?_
              refine wq_skip 32 (by kernel_rfl) ?_
              refine wq_skip 33 (by kernel_rfl) ?_
              refine wq_skip 34 (by kernel_rfl) ?_
              refine wq_skip 35 (by kernel_rfl) ?_
              refine wq_val 36 (by kernel_rfl) (fun w1 c1 => (op_pick_t (v := .bool true) rfl rfl)) ?_
              refine wq_val 37 (by kernel_rfl) (fun w1 c1 => (op_pick_t (v := .bool true) rfl rfl)) ?_
              exact leaf_q (sub_out 23 _ rfl (by kernel_rfl) ⟨(congrArg Value.bool (by rw [decide_eq_true h151, decide_eq_true h152] <;> rfl)), trivial⟩)
            · skip
              refine wq_val 29 (by kernel_rfl) (fun w1 c1 => (op_move (v := .bool false) rfl)) ?_
              refine wq_val 30 (by kernel_rfl) (fun w1 c1 => (op_move (v := .slice _ _ _) rfl)) ?_
              refine wq_val 31 (by kernel_rfl) (fun w1 c1 => (op_move (v := .int .i64 _) rfl)) ?_
              refine wq_val 32 (by kernel_rfl) (fun w1 c1 => (op_indexA 5 rfl rfl (by kernel_rfl) ((hr_p0.old c1).addr (h150 (by rw [decide_eq_true h151, decide_eq_false h152] <;> rfl)).1 (h150 (by rw [decide_eq_true h151, decide_eq_false h152] <;> rfl)).2) hz_p0.2.2 (h150 (by rw [decide_eq_true h151, decide_eq_false h152] <;> rfl)).1 (h150 (by rw [decide_eq_true h151, decide_eq_false h152] <;> rfl)).2)) ?_
              refine wq_val 33 (by kernel_rfl) (fun w1 c1 => (op_field0 rfl (by kernel_rfl))) ?_
              refine wq_val 34 (by kernel_rfl) (fun w1 c1 => (op_load (v := .int .i64 ((ix p0 s133.2.2).Kind)) rfl (by kernel_rfl) ((hr_p0.old c1).cell0 (h150 (by rw [decide_eq_true h151, decide_eq_false h152] <;> rfl)).1 (h150 (by rw [decide_eq_true h151, decide_eq_false h152] <;> rfl)).2 rfl))) ?_
              refine wq_val 35 (by kernel_rfl) (fun w1 c1 => (op_eql rfl rfl)) ?_
              refine wq_val 36 (by kernel_rfl) (fun w1 c1 => (op_pick_f (v := .bool _) rfl rfl)) ?_
              refine wq_val 37 (by kernel_rfl) (fun w1 c1 => (op_pick_t (v := .bool _) rfl rfl)) ?_
              exact leaf_q (sub_out 23 _ rfl (by kernel_rfl) ⟨(congrArg Value.bool (by rw [decide_eq_true h151, decide_eq_false h152] <;> rfl)), trivial⟩)
          · skip
            refine wq_val 22 (by kernel_rfl) (fun w1 c1 => (op_move (v := .bool false) rfl)) ?_
            refine wq_skip 23 (by kernel_rfl) ?_
            refine wq_skip 24 (by kernel_rfl) ?_
            refine wq_skip 25 (by kernel_rfl) ?_
            refine wq_skip 26 (by kernel_rfl) ?_
            refine wq_skip 27 (by kernel_rfl) ?_
            refine wq_skip 28 (by kernel_rfl) ?_
            refine wq_skip 29 (by kernel_rfl) ?_
            refine wq_skip 30 (by kernel_rfl) ?_
            refine wq_skip 31 (by kernel_rfl) ?_
            refine wq_skip 32 (by kernel_rfl) ?_
            refine wq_skip 33 (by kernel_rfl) ?_
            refine wq_skip 34 (by kernel_rfl) ?_
            refine wq_skip 35 (by kernel_rfl) ?_
            refine wq_skip 36 (by kernel_rfl) ?_
            refine wq_val 37 (by kernel_rfl) (fun w1 c1 => (op_pick_f (v := .bool false) rfl rfl)) ?_
            exact leaf_q (sub_out 23 _ rfl (by kernel_rfl) ⟨(congrArg Value.bool (by rw [decide_eq_false h151] <;> rfl)), trivial⟩)
        refine xm_next ?_
        refine cm_condB (by kernel_rfl) rfl (fun h153 => ?_) (fun h153 => ?_)
        · skip
          refine cm_seq ?_
          refine cm_region ?_
          refine lm_val 38 (by kernel_rfl) (fun w1 c1 => (op_move (v := .int .i64 _) rfl)) ?_
          refine lm_val 39 (by kernel_rfl) (fun w1 c1 => (op_move (v := .slice _ _ _) rfl)) ?_
          refine lm_val 40 (by kernel_rfl) (fun w1 c1 => (op_move (v := .int .i64 _) rfl)) ?_
          refine lm_ck (fun h154 => ?_)
          refine lm_val 41 (by kernel_rfl) (fun w1 c1 => (op_indexA 5 rfl rfl (by kernel_rfl) ((hr_p0.old c1).addr h154.1 h154.2) hz_p0.2.2 h154.1 h154.2)) ?_
          refine lm_val 42 (by kernel_rfl) (fun w1 c1 => (op_field (m := 4) rfl (by kernel_rfl))) ?_
          refine lm_val 43 (by kernel_rfl) (fun w1 c1 => (op_load (v := .int .i64 ((ix p0 s133.2.2).Amount)) rfl (by kernel_rfl) ((hr_p0.old c1).cell (j := 4) h154.1 h154.2 rfl))) ?_
          refine lm_ck (fun h155 => ?_)
          refine lm_val 44 (by kernel_rfl) (fun w1 c1 => (op_add rfl rfl h155)) ?_
          refine lm_val 6 (by kernel_rfl) (fun w1 c1 => (op_assign (v := .int .i64 _) rfl)) ?_
          refine lm_nil ?_
          refine xm_next ?_
          refine cm_ck (fun h156 => ?_)
          refine cm_of_then ?_
          refine cm_cutE [(7, .bool (s133.2.1 || (decide ((ix p0 s133.2.2).Kind = 2))))] ?_ ?_
          · skip
            refine wq_bool 45 (by kernel_rfl) (fun w1 c1 => (op_move (v := .bool _) rfl)) (fun h157 => ?_) (fun h157 => ?_)
            · skip
              refine wq_val 46 (by kernel_rfl) (fun w1 c1 => (op_move (v := .bool true) rfl)) ?_
              refine wq_skip 47 (by kernel_rfl) ?_
              refine wq_skip 48 (by kernel_rfl) ?_
              refine wq_skip 49 (by kernel_rfl) ?_
              refine wq_skip 50 (by kernel_rfl) ?_
              refine wq_skip 51 (by kernel_rfl) ?_
              refine wq_skip 52 (by kernel_rfl) ?_
              refine wq_val 53 (by kernel_rfl) (fun w1 c1 => (op_pick_t (v := .bool true) rfl rfl)) ?_
              refine wq_val 7 (by kernel_rfl) (fun w1 c1 => (op_assign (v := .bool true) rfl)) ?_
              exact leaf_q (sub_out 10 _ rfl (by kernel_rfl) ⟨(congrArg Value.bool (by rw [h157] <;> rfl)), trivial⟩)
            · skip
              refine wq_val 46 (by kernel_rfl) (fun w1 c1 => (op_move (v := .bool false) rfl)) ?_
              refine wq_val 47 (by kernel_rfl) (fun w1 c1 => (op_move (v := .slice _ _ _) rfl)) ?_
              refine wq_val 48 (by kernel_rfl) (fun w1 c1 => (op_move (v := .int .i64 _) rfl)) ?_
              refine wq_val 49 (by kernel_rfl) (fun w1 c1 => (op_indexA 5 rfl rfl (by kernel_rfl) ((hr_p0.old c1).addr (h156 (by rw [h157] <;> rfl)).1 (h156 (by rw [h157] <;> rfl)).2) hz_p0.2.2 (h156 (by rw [h157] <;> rfl)).1 (h156 (by rw [h157] <;> rfl)).2)) ?_
              refine wq_val 50 (by kernel_rfl) (fun w1 c1 => (op_field0 rfl (by kernel_rfl))) ?_
              refine wq_val 51 (by kernel_rfl) (fun w1 c1 => (op_load (v := .int .i64 ((ix p0 s133.2.2).Kind)) rfl (by kernel_rfl) ((hr_p0.old c1).cell0 (h156 (by rw [h157] <;> rfl)).1 (h156 (by rw [h157] <;> rfl)).2 rfl))) ?_
              refine wq_val 52 (by kernel_rfl) (fun w1 c1 => (op_eql rfl rfl)) ?_
              refine wq_val 53 (by kernel_rfl) (fun w1 c1 => (op_pick_f (v := .bool _) rfl rfl)) ?_
              refine wq_val 7 (by kernel_rfl) (fun w1 c1 => (op_assign (v := .bool _) rfl)) ?_
              exact leaf_q (sub_out 10 _ rfl (by kernel_rfl) ⟨(congrArg Value.bool (by rw [h157] <;> rfl)), trivial⟩)
          refine xm_of_then ?_
          refine xm_inN ?_
          exact xm_lnext () (sub_cons (by kernel_rfl) rfl (sub_cons (by kernel_rfl) rfl (sub_cons (by kernel_rfl) rfl (sub_cons (by kernel_rfl) rfl (sub_cons (by kernel_rfl) rfl sub_nil))))) (hsub [] (by kernel_rfl) rfl)
        · skip
          refine cm_skip ?_
          refine xm_inN ?_
          exact xm_lnext () (sub_cons (by kernel_rfl) rfl (sub_cons (by kernel_rfl) rfl (sub_cons (by kernel_rfl) rfl (sub_cons (by kernel_rfl) rfl (sub_cons (by kernel_rfl) rfl sub_nil))))) (hsub [] (by kernel_rfl) rfl)
      intro s146 u147
      refine cm_region ?_
      refine lm_val 13 (by kernel_rfl) (fun w1 c1 => (op_move (v := .int .i64 _) rfl)) ?_
      refine lm_ck (fun h158 => ?_)
      refine lm_val 14 (by kernel_rfl) (fun w1 c1 => (op_add rfl rfl h158)) ?_
      refine lm_val 8 (by kernel_rfl) (fun w1 c1 => (op_assign (v := .int .i64 _) rfl)) ?_
      refine lm_nil ?_
      exact xm_lnext () (sub_cons (by kernel_rfl) rfl (sub_cons (by kernel_rfl) rfl (sub_cons (by kernel_rfl) rfl (sub_cons (by kernel_rfl) rfl (sub_cons (by kernel_rfl) rfl sub_nil))))) (hsub [] (by kernel_rfl) rfl)
    · skip
      refine cm_exit ?_
      refine xm_thenE ?_
      refine xm_lexit ?_
      refine xm_here ?_
      exact xm_lnext () (sub_cons (by kernel_rfl) rfl (sub_cons (by kernel_rfl) rfl sub_nil)) (hsub [] (by kernel_rfl) rfl)
  intro s81 u82
  refine cm_seq ?_
  refine cm_region ?_
  refine lm_val 54 (by kernel_rfl) (fun w1 c1 => (op_move (v := .int .i64 _) rfl)) ?_
  refine lm_val 55 (by kernel_rfl) (fun w1 c1 => (op_move (v := .bool _) rfl)) ?_
  refine lm_val 4 (by kernel_rfl) (fun w1 c1 => (op_assign (v := .int .i64 _) rfl)) ?_
  refine lm_val 5 (by kernel_rfl) (fun w1 c1 => (op_assign (v := .bool _) rfl)) ?_
  refine lm_nil ?_
  refine xm_next ?_
  refine cm_ret ?_
  exact xm_retTT rfl (by kernel_rfl) (show _ = Value.int .i64 _ from rfl) (by kernel_rfl) (show _ = Value.bool _ from rfl) fun w1 c1 => ⟨(), rfl, hsub [] (by kernel_rfl) rfl w1 c1⟩
/-- recyclingref54.Credited -/
def m_recyclingref54_Credited (N : Nat) (p0 : (List ApiItem)) (p1 : Int) : Option (Int) :=
  (andThen
    (loopM (fun (s97 : Int × Int) =>
      (if s97.2 < (List.length p0 : Int) then
        (andThen
          (ck ((0 : Int) ≤ s97.2 ∧ s97.2 < (List.length p0 : Int)) (
            ck (decide ((ix p0 s97.2).Ref = p1) = true → (0 : Int) ≤ s97.2 ∧ s97.2 < (List.length p0 : Int)) (
              (if ((decide ((ix p0 s97.2).Ref = p1)) && (decide ((ix p0 s97.2).Kind = 4))) = true then
                ck ((0 : Int) ≤ s97.2 ∧ s97.2 < (List.length p0 : Int)) (
                  ck (I64 (s97.1 - ((ix p0 s97.2).Amount))) (
                    some (.next (s97.1 - ((ix p0 s97.2).Amount)))))
              else
                some (.next s97.1)))))
        fun (s106 : Int) =>
          ck (I64 (s97.2 + (1 : Int))) (
            some (.next (s106, (s97.2 + (1 : Int))))))
      else
        some (.done (.next s97.1)))) N ((0 : Int), (0 : Int)))
  fun (s59 : Int) =>
    some (s59))
set_option maxRecDepth 20000 in
theorem m_recyclingref54_Credited_ok (N : Nat) (w0 : World) (p0 : (List ApiItem)) (p1 : Int) (A_p0 : Option Addr) (n_p0 c_p0 : Nat) (hr_p0 : RdE w0 5 encApiItem A_p0 p0) (hz_p0 : SW A_p0 n_p0 c_p0 (List.length p0)) (r : Int) (hr : m_recyclingref54_Credited N p0 p1 = some r) :
    Calls Try.prog 42 [.slice A_p0 n_p0 c_p0, .int .i64 p1].toArray w0 fun x w1 => ∃ u, x = .returned ((fun (r : Int) (_u : Unit) => .int .i64 r) r u) ∧ Hs w0 ((fun (_r : Int) (_u : Unit) => []) r u) w1 := by
  refine calls_cm (n := 36) (R := fun r x w1 => ∃ u, x = .returned ((fun (r : Int) (_u : Unit) => .int .i64 r) r u) ∧ Hs w0 ((fun (_r : Int) (_u : Unit) => []) r u) w1) Try.func42 rfl rfl (Nat.le_of_ble_eq_true rfl) ?_ r hr
  unfold m_recyclingref54_Credited
  refine cm_seq ?_
  refine cm_region ?_
  refine lm_val 4 (by kernel_rfl) (fun w1 c1 => (op_assign (v := .int .i64 _) rfl)) ?_
  refine lm_nil ?_
  refine xm_next ?_
  refine cm_seq ?_
  refine cm_region ?_
  refine lm_val 5 (by kernel_rfl) (fun w1 c1 => (op_assign (v := .int .i64 _) rfl)) ?_
  refine lm_nil ?_
  refine xm_next ?_
  refine cm_join (σ := Int) (ξ := Unit) (fun s59 u60 => [(5, .int .i64 s59)]) (fun s59 u60 => []) ?_ ?_
  · skip
    refine cm_seq ?_
    refine cm_region ?_
    refine lm_val 6 (by kernel_rfl) (fun w1 c1 => (op_assign (v := .int .i64 _) rfl)) ?_
    refine lm_nil ?_
    refine xm_next ?_
    refine cm_block ?_
    refine cm_loop (σ := Int × Int) (ξ := Unit) (fun s97 u98 => [(0, .slice A_p0 n_p0 c_p0), (1, .int .i64 p1), (5, .int .i64 s97.1), (6, .int .i64 s97.2)]) (fun s97 u98 => []) () ?_ ?_ ?_
    · exact (sub_cons (by kernel_rfl) rfl (sub_cons (by kernel_rfl) rfl (sub_cons (by kernel_rfl) rfl (sub_cons (by kernel_rfl) rfl sub_nil))))
    · exact hsub [] (by kernel_rfl) rfl
    intro s97 u98
    refine cm_seq ?_
    refine cm_seq ?_
    refine cm_region ?_
    refine lm_val 7 (by kernel_rfl) (fun w1 c1 => (op_move (v := .int .i64 _) rfl)) ?_
    refine lm_val 8 (by kernel_rfl) (fun w1 c1 => (op_move (v := .slice _ _ _) rfl)) ?_
    refine lm_val 9 (by kernel_rfl) (fun w1 c1 => (op_lenN rfl (by kernel_rfl) hz_p0.2.2)) ?_
    refine lm_val 10 (by kernel_rfl) (fun w1 c1 => (op_lss rfl rfl)) ?_
    refine lm_nil ?_
    refine xm_next ?_
    refine cm_cond (by kernel_rfl) rfl (fun h99 => ?_) (fun h99 => ?_)
    · skip
      refine cm_skip ?_
      refine xm_next ?_
      refine cm_join (σ := Int) (ξ := Unit) (fun s106 u107 => [(0, .slice A_p0 n_p0 c_p0), (1, .int .i64 p1), (5, .int .i64 s106), (6, .int .i64 s97.2)]) (fun s106 u107 => []) ?_ ?_
      · skip
        refine cm_block ?_
        refine cm_seq ?_
        refine cm_ck (fun h108 => ?_)
        refine cm_ck (fun h109 => ?_)
        refine cm_cutE [(27, .bool ((decide ((ix p0 s97.2).Ref = p1)) && (decide ((ix p0 s97.2).Kind = 4))))] ?_ ?_
        · skip
          refine wq_val 13 (by kernel_rfl) (fun w1 c1 => (op_move (v := .slice _ _ _) rfl)) ?_
          refine wq_val 14 (by kernel_rfl) (fun w1 c1 => (op_move (v := .int .i64 _) rfl)) ?_
          refine wq_val 15 (by kernel_rfl) (fun w1 c1 => (op_indexA 5 rfl rfl (by kernel_rfl) ((hr_p0.old c1).addr h108.1 h108.2) hz_p0.2.2 h108.1 h108.2)) ?_
          refine wq_val 16 (by kernel_rfl) (fun w1 c1 => (op_field (m := 1) rfl (by kernel_rfl))) ?_
          refine wq_val 17 (by kernel_rfl) (fun w1 c1 => (op_load (v := .int .i64 ((ix p0 s97.2).Ref)) rfl (by kernel_rfl) ((hr_p0.old c1).cell (j := 1) h108.1 h108.2 rfl))) ?_
          refine wq_val 18 (by kernel_rfl) (fun w1 c1 => (op_move (v := .int .i64 _) rfl)) ?_
          refine wq_dec 19 (by kernel_rfl) (fun w1 c1 => (op_eql rfl rfl)) (fun h110 => ?_) (fun h110 => ?_)
          · skip
            refine wq_val 20 (by kernel_rfl) (fun w1 c1 => (op_move (v := .bool true) rfl)) ?_
            refine wq_val 21 (by kernel_rfl) (fun w1 c1 => (op_move (v := .slice _ _ _) rfl)) ?_
            refine wq_val 22 (by kernel_rfl) (fun w1 c1 => (op_move (v := .int .i64 _) rfl)) ?_
            refine wq_val 23 (by kernel_rfl) (fun w1 c1 => (op_indexA 5 rfl rfl (by kernel_rfl) ((hr_p0.old c1).addr (h109 (by rw [decide_eq_true h110] <;> rfl)).1 (h109 (by rw [decide_eq_true h110] <;> rfl)).2) hz_p0.2.2 (h109 (by rw [decide_eq_true h110] <;> rfl)).1 (h109 (by rw [decide_eq_true h110] <;> rfl)).2)) ?_
            refine wq_val 24 (by kernel_rfl) (fun w1 c1 => (op_field0 rfl (by kernel_rfl))) ?_
            refine wq_val 25 (by kernel_rfl) (fun w1 c1 => (op_load (v := .int .i64 ((ix p0 s97.2).Kind)) rfl (by kernel_rfl) ((hr_p0.old c1).cell0 (h109 (by rw [decide_eq_true h110] <;> rfl)).1 (h109 (by rw [decide_eq_true h110] <;> rfl)).2 rfl))) ?_
            refine wq_val 26 (by kernel_rfl) (fun w1 c1 => (op_eql rfl rfl)) ?_
            refine wq_val 27 (by kernel_rfl) (fun w1 c1 => (op_pick_t (v := .bool _) rfl rfl)) ?_
            exact leaf_q (sub_out 15 _ rfl (by kernel_rfl) ⟨(congrArg Value.bool (by rw [decide_eq_true h110] <;> rfl)), trivial⟩)
          · skip
            refine wq_val 20 (by kernel_rfl) (fun w1 c1 => (op_move (v := .bool false) rfl)) ?_
            refine wq_skip 21 (by kernel_rfl) ?_
            refine wq_skip 22 (by kernel_rfl) ?_
            refine wq_skip 23 (by kernel_rfl) ?_
            refine wq_skip 24 (by kernel_rfl) ?_
            refine wq_skip 25 (by kernel_rfl) ?_
            refine wq_skip 26 (by kernel_rfl) ?_
            refine wq_val 27 (by kernel_rfl) (fun w1 c1 => (op_pick_f (v := .bool false) rfl rfl)) ?_
            exact leaf_q (sub_out 15 _ rfl (by kernel_rfl) ⟨(congrArg Value.bool (by rw [decide_eq_false h110] <;> rfl)), trivial⟩)
        refine xm_next ?_
        refine cm_condB (by kernel_rfl) rfl (fun h111 => ?_) (fun h111 => ?_)
        · skip
          refine cm_region ?_
          refine lm_val 28 (by kernel_rfl) (fun w1 c1 => (op_move (v := .int .i64 _) rfl)) ?_
          refine lm_val 29 (by kernel_rfl) (fun w1 c1 => (op_move (v := .slice _ _ _) rfl)) ?_
          refine lm_val 30 (by kernel_rfl) (fun w1 c1 => (op_move (v := .int .i64 _) rfl)) ?_
          refine lm_ck (fun h112 => ?_)
          refine lm_val 31 (by kernel_rfl) (fun w1 c1 => (op_indexA 5 rfl rfl (by kernel_rfl) ((hr_p0.old c1).addr h112.1 h112.2) hz_p0.2.2 h112.1 h112.2)) ?_
          refine lm_val 32 (by kernel_rfl) (fun w1 c1 => (op_field (m := 4) rfl (by kernel_rfl))) ?_
          refine lm_val 33 (by kernel_rfl) (fun w1 c1 => (op_load (v := .int .i64 ((ix p0 s97.2).Amount)) rfl (by kernel_rfl) ((hr_p0.old c1).cell (j := 4) h112.1 h112.2 rfl))) ?_
          refine lm_ck (fun h113 => ?_)
          refine lm_val 34 (by kernel_rfl) (fun w1 c1 => (op_sub rfl rfl h113)) ?_
          refine lm_val 5 (by kernel_rfl) (fun w1 c1 => (op_assign (v := .int .i64 _) rfl)) ?_
          refine lm_nil ?_
          refine xm_inN ?_
          exact xm_lnext () (sub_cons (by kernel_rfl) rfl (sub_cons (by kernel_rfl) rfl (sub_cons (by kernel_rfl) rfl (sub_cons (by kernel_rfl) rfl sub_nil)))) (hsub [] (by kernel_rfl) rfl)
        · skip
          refine cm_skip ?_
          refine xm_inN ?_
          exact xm_lnext () (sub_cons (by kernel_rfl) rfl (sub_cons (by kernel_rfl) rfl (sub_cons (by kernel_rfl) rfl (sub_cons (by kernel_rfl) rfl sub_nil)))) (hsub [] (by kernel_rfl) rfl)
      intro s106 u107
      refine cm_region ?_
      refine lm_val 11 (by kernel_rfl) (fun w1 c1 => (op_move (v := .int .i64 _) rfl)) ?_
      refine lm_ck (fun h114 => ?_)
      refine lm_val 12 (by kernel_rfl) (fun w1 c1 => (op_add rfl rfl h114)) ?_
      refine lm_val 6 (by kernel_rfl) (fun w1 c1 => (op_assign (v := .int .i64 _) rfl)) ?_
      refine lm_nil ?_
      exact xm_lnext () (sub_cons (by kernel_rfl) rfl (sub_cons (by kernel_rfl) rfl (sub_cons (by kernel_rfl) rfl (sub_cons (by kernel_rfl) rfl sub_nil)))) (hsub [] (by kernel_rfl) rfl)
    · skip
      refine cm_exit ?_
      refine xm_thenE ?_
      refine xm_lexit ?_
      refine xm_here ?_
      exact xm_lnext () (sub_cons (by kernel_rfl) rfl sub_nil) (hsub [] (by kernel_rfl) rfl)
  intro s59 u60
  refine cm_seq ?_
  refine cm_region ?_
  refine lm_val 35 (by kernel_rfl) (fun w1 c1 => (op_move (v := .int .i64 _) rfl)) ?_
  refine lm_val 4 (by kernel_rfl) (fun w1 c1 => (op_assign (v := .int .i64 _) rfl)) ?_
  refine lm_nil ?_
  refine xm_next ?_
  refine cm_ret ?_
  exact xm_retT rfl (by kernel_rfl) (show _ = Value.int .i64 _ from rfl) fun w1 c1 => ⟨(), rfl, hsub [] (by kernel_rfl) rfl w1 c1⟩
/-- recyclingref54.Credit -/
def m_recyclingref54_Credit (N : Nat) (p0 : ApiBill) (p1 : Int) (p2 : Int) : Option (ApiBill × Int) :=
  (if 512 ≤ (List.length p0.Items : Int) then
    some (((ApiBill.mk 0 0 (ApiWindow.mk 0 0) ([] : List ApiItem) 0), (8 : Int)))
  else
    Option.bind (m_recyclingref54_money N p0.Total) fun r8 => (if (!r8) = true then
      some (((ApiBill.mk 0 0 (ApiWindow.mk 0 0) ([] : List ApiItem) 0), (1 : Int)))
    else
      (andThen
        (loopM (fun (s53 : Int) =>
          (if s53 < (List.length p0.Items : Int) then
            ck ((0 : Int) ≤ s53 ∧ s53 < (List.length p0.Items : Int)) (
              Option.bind (m_recyclingref54_money N ((ix p0.Items s53).Amount)) fun r57 => (if (!r57) = true then
                some (.done (.done (((ApiBill.mk 0 0 (ApiWindow.mk 0 0) ([] : List ApiItem) 0), (1 : Int)))))
              else
                ck (I64 (s53 + (1 : Int))) (
                  some (.next (s53 + (1 : Int))))))
          else
            some (.done (.next ())))) N (0 : Int))
      fun (_s35 : Unit) =>
        (if ((decide (p2 < 1)) || (decide (1000000000000 < p2))) = true then
          some (((ApiBill.mk 0 0 (ApiWindow.mk 0 0) ([] : List ApiItem) 0), (1 : Int)))
        else
          Option.bind (m_recyclingref54_Charged N p0.Items p1) fun r63 => (if (!r63.2) = true then
            some (((ApiBill.mk 0 0 (ApiWindow.mk 0 0) ([] : List ApiItem) 0), (7 : Int)))
          else
            Option.bind (m_recyclingref54_Credited N p0.Items p1) fun r66 => ck (I64 (r66 + p2)) (
              (if r63.1 < (r66 + p2) then
                some (((ApiBill.mk 0 0 (ApiWindow.mk 0 0) ([] : List ApiItem) 0), (1 : Int)))
              else
                ck ((List.length ([] : List ApiItem) + List.length p0.Items) * 40 ≤ 140737488355328) (
                  ck (I64 (-p2)) (
                    ck (I64 (-p2)) (
                      ck ((List.length (([] : List ApiItem) ++ p0.Items) + List.length ([(ApiItem.mk 4 p1 1 (-p2) (-p2))])) * 40 ≤ 140737488355328) (
                        ck (I64 (p0.Total - p2)) (
                          some (((ApiBill.mk p0.ID p0.Household p0.When ((([] : List ApiItem) ++ p0.Items) ++ ([(ApiItem.mk 4 p1 1 (-p2) (-p2))])) (p0.Total - p2)), (0 : Int)))))))))))))))
set_option maxHeartbeats 2000000 in
set_option maxRecDepth 20000 in
theorem m_recyclingref54_Credit_ok (N : Nat) (w0 : World) (p0 : ApiBill) (p1 : Int) (p2 : Int) (A_p01 : Option Addr) (n_p01 c_p01 : Nat) (hr_p01 : RdE w0 5 encApiItem A_p01 p0.Items) (hz_p01 : SW A_p01 n_p01 c_p01 (List.length p0.Items)) (r : ApiBill × Int) (hr : m_recyclingref54_Credit N p0 p1 p2 = some r) :
    Calls Try.prog 27 [.agg #[.int .i64 p0.ID, .int .i64 p0.Household, .int .i64 p0.When.From, .int .i64 p0.When.To, .slice A_p01 n_p01 c_p01, .int .i64 p0.Total], .int .i64 p1, .int .i64 p2].toArray w0 fun x w1 => ∃ u, x = .returned ((fun (r : ApiBill × Int) (u : (Option Addr) × Nat × Nat) => .tuple #[.agg #[.int .i64 r.1.ID, .int .i64 r.1.Household, .int .i64 r.1.When.From, .int .i64 r.1.When.To, .slice u.1 u.2.1 u.2.2, .int .i64 r.1.Total], .int .i64 r.2]) r u) ∧ Hs w0 ((fun (r : ApiBill × Int) (u : (Option Addr) × Nat × Nat) => [ownE 55 5 encApiItem u.1 u.2.1 u.2.2 r.1.Items]) r u) w1 := by
  refine calls_cm (n := 82) (R := fun r x w1 => ∃ u, x = .returned ((fun (r : ApiBill × Int) (u : (Option Addr) × Nat × Nat) => .tuple #[.agg #[.int .i64 r.1.ID, .int .i64 r.1.Household, .int .i64 r.1.When.From, .int .i64 r.1.When.To, .slice u.1 u.2.1 u.2.2, .int .i64 r.1.Total], .int .i64 r.2]) r u) ∧ Hs w0 ((fun (r : ApiBill × Int) (u : (Option Addr) × Nat × Nat) => [ownE 55 5 encApiItem u.1 u.2.1 u.2.2 r.1.Items]) r u) w1) Try.func27 rfl rfl (Nat.le_of_ble_eq_true rfl) ?_ r hr
  unfold m_recyclingref54_Credit
  refine cm_seq ?_
  refine cm_region ?_
  refine lm_box 3 [.int .i64 _, .int .i64 _, .int .i64 _, .int .i64 _, .slice _ _ _, .int .i64 _] (by kernel_rfl) rfl ?_
  intro b5
  refine lm_alloc 6 [.int .i64 0, .int .i64 0, .int .i64 0, .int .i64 0, .slice none 0 0, .int .i64 0] (v := .agg #[.int .i64 0, .int .i64 0, .int .i64 0, .int .i64 0, .slice none 0 0, .int .i64 0]) (by kernel_rfl) (by kernel_rfl) rfl ?_
  intro b6
  refine lm_val 7 (by kernel_rfl) (fun w1 c1 => (op_assign (v := .int .i64 _) rfl)) ?_
  refine lm_nil ?_
  refine xm_next ?_
  refine cm_seq ?_
  refine cm_seq ?_
  refine cm_region ?_
  refine lm_val 11 (by kernel_rfl) (fun w1 c1 => (op_fieldL (m := 4) (k := 4) rfl (by kernel_rfl) rfl)) ?_
  refine lm_val 12 (by kernel_rfl) (fun w1 c1 => (op_load rfl (by kernel_rfl) (c1.cell 1 (u := .slice _ _ _) rfl rfl))) ?_
  refine lm_val 13 (by kernel_rfl) (fun w1 c1 => (op_lenN rfl (by kernel_rfl) hz_p01.2.2)) ?_
  refine lm_val 14 (by kernel_rfl) (fun w1 c1 => (op_geq rfl rfl)) ?_
  refine lm_nil ?_
  refine xm_next ?_
  refine cm_cond (by kernel_rfl) rfl (fun h7 => ?_) (fun h7 => ?_)
  · skip
    refine cm_seq ?_
    refine cm_region ?_
    refine lm_val 15 (by kernel_rfl) (fun w1 c1 => (op_build (z := [.int .i64 0, .int .i64 0, .int .i64 0, .int .i64 0, .slice none 0 0, .int .i64 0]) (tab := [(0, 1), (1, 1), (2, 2), (4, 1), (5, 1)]) (cs := [.int .i64 _, .int .i64 _, .int .i64 _, .int .i64 _, .slice _ _ _, .int .i64 _]) [] (by kernel_rfl) (by kernel_rfl) fillOk_nil rfl)) ?_
    refine lm_storeA 0 [.int .i64 _, .int .i64 _, .int .i64 _, .int .i64 _, .slice _ _ _, .int .i64 _] [_, _, _, _, _, _] (H' := [blkE _ _ [_, _, _, _, _, _], _]) (by kernel_rfl) rfl rfl (by kernel_rfl) rfl rfl (by kernel_rfl) rfl rfl ?_
    refine lm_val 7 (by kernel_rfl) (fun w1 c1 => (op_assign (v := .int .i64 _) rfl)) ?_
    refine lm_nil ?_
    refine xm_next ?_
    refine cm_ret ?_
    refine xm_thenR ?_
    refine xm_nilrow 55 5 encApiItem ?_
    exact xm_retCT rfl (by kernel_rfl) (show _ = Value.pointer (some ⟨_, 0, none⟩) from rfl) (by kernel_rfl) (fun w1 c1 => c1.cells 1 (ds := [.int .i64 _, .int .i64 _, .int .i64 _, .int .i64 _, .slice _ _ _, .int .i64 _]) rfl rfl) (by kernel_rfl) (show _ = Value.int .i64 _ from rfl) fun w1 c1 => ⟨(none, 0, 0), rfl, hsub [0] (by kernel_rfl) rfl w1 c1⟩
  · skip
    refine cm_skip ?_
    refine xm_next ?_
    refine cm_seq ?_
    refine cm_seq ?_
    refine cm_region ?_
    refine lm_val 16 (by kernel_rfl) (fun w1 c1 => (op_fieldL (m := 5) (k := 5) rfl (by kernel_rfl) rfl)) ?_
    refine lm_val 17 (by kernel_rfl) (fun w1 c1 => (op_load rfl (by kernel_rfl) (c1.cell 1 (u := .int .i64 _) rfl rfl))) ?_
    refine lm_call 18 (V := (fun (r : Bool) (_u : Unit) => .bool r)) (HR := (fun (_r : Bool) (_u : Unit) => [])) (by kernel_rfl) (fun w1 => op_call (by kernel_rfl)) (fun r1 hr1 w1 c1 => m_recyclingref54_money_ok N w1 p0.Total  r1 hr1) ?_
    intro r8 u9
    refine lm_val 19 (by kernel_rfl) (fun w1 c1 => (op_not rfl)) ?_
    refine lm_nil ?_
    refine xm_next ?_
    refine cm_condB (by kernel_rfl) rfl (fun h10 => ?_) (fun h10 => ?_)
    · skip
      refine cm_seq ?_
      refine cm_region ?_
      refine lm_val 20 (by kernel_rfl) (fun w1 c1 => (op_build (z := [.int .i64 0, .int .i64 0, .int .i64 0, .int .i64 0, .slice none 0 0, .int .i64 0]) (tab := [(0, 1), (1, 1), (2, 2), (4, 1), (5, 1)]) (cs := [.int .i64 _, .int .i64 _, .int .i64 _, .int .i64 _, .slice _ _ _, .int .i64 _]) [] (by kernel_rfl) (by kernel_rfl) fillOk_nil rfl)) ?_
      refine lm_storeA 0 [.int .i64 _, .int .i64 _, .int .i64 _, .int .i64 _, .slice _ _ _, .int .i64 _] [_, _, _, _, _, _] (H' := [blkE _ _ [_, _, _, _, _, _], _]) (by kernel_rfl) rfl rfl (by kernel_rfl) rfl rfl (by kernel_rfl) rfl rfl ?_
      refine lm_val 7 (by kernel_rfl) (fun w1 c1 => (op_assign (v := .int .i64 _) rfl)) ?_
      refine lm_nil ?_
      refine xm_next ?_
      refine cm_ret ?_
      refine xm_thenR ?_
      refine xm_nilrow 55 5 encApiItem ?_
      exact xm_retCT rfl (by kernel_rfl) (show _ = Value.pointer (some ⟨_, 0, none⟩) from rfl) (by kernel_rfl) (fun w1 c1 => c1.cells 1 (ds := [.int .i64 _, .int .i64 _, .int .i64 _, .int .i64 _, .slice _ _ _, .int .i64 _]) rfl rfl) (by kernel_rfl) (show _ = Value.int .i64 _ from rfl) fun w1 c1 => ⟨(none, 0, 0), rfl, hsub [0] (by kernel_rfl) rfl w1 c1⟩
    · skip
      refine cm_skip ?_
      refine xm_next ?_
      refine cm_join (σ := Unit) (ξ := Unit) (fun s35 u36 => [(1, .int .i64 p1), (2, .int .i64 p2), (3, .pointer (some ⟨b5, 0, none⟩)), (6, .pointer (some ⟨b6, 0, none⟩))]) (fun s35 u36 => [blkE b5 32 [.int .i64 p0.ID, .int .i64 p0.Household, .int .i64 p0.When.From, .int .i64 p0.When.To, .slice A_p01 n_p01 c_p01, .int .i64 p0.Total], blkE b6 32 [.int .i64 0, .int .i64 0, .int .i64 0, .int .i64 0, .slice none 0 0, .int .i64 0]]) ?_ ?_
      · skip
        refine cm_seq ?_
        refine cm_region ?_
        refine lm_val 8 (by kernel_rfl) (fun w1 c1 => (op_assign (v := .int .i64 _) rfl)) ?_
        refine lm_nil ?_
        refine xm_next ?_
        refine cm_block ?_
        refine cm_loop (σ := Int) (ξ := Unit) (fun s53 u54 => [(1, .int .i64 p1), (2, .int .i64 p2), (3, .pointer (some ⟨b5, 0, none⟩)), (6, .pointer (some ⟨b6, 0, none⟩)), (8, .int .i64 s53)]) (fun s53 u54 => [blkE b5 32 [.int .i64 p0.ID, .int .i64 p0.Household, .int .i64 p0.When.From, .int .i64 p0.When.To, .slice A_p01 n_p01 c_p01, .int .i64 p0.Total], blkE b6 32 [.int .i64 0, .int .i64 0, .int .i64 0, .int .i64 0, .slice none 0 0, .int .i64 0]]) () ?_ ?_ ?_
        · exact (sub_cons (by kernel_rfl) rfl (sub_cons (by kernel_rfl) rfl (sub_cons (by kernel_rfl) rfl (sub_cons (by kernel_rfl) rfl (sub_cons (by kernel_rfl) rfl sub_nil)))))
        · exact hsub [1, 0] (by kernel_rfl) rfl
        intro s53 u54
        refine cm_seq ?_
        refine cm_seq ?_
        refine cm_region ?_
        refine lm_val 21 (by kernel_rfl) (fun w1 c1 => (op_move (v := .int .i64 _) rfl)) ?_
        refine lm_val 22 (by kernel_rfl) (fun w1 c1 => (op_fieldL (m := 4) (k := 4) rfl (by kernel_rfl) rfl)) ?_
        refine lm_val 23 (by kernel_rfl) (fun w1 c1 => (op_load rfl (by kernel_rfl) (c1.cell 0 (u := .slice _ _ _) rfl rfl))) ?_
        refine lm_val 24 (by kernel_rfl) (fun w1 c1 => (op_lenN rfl (by kernel_rfl) hz_p01.2.2)) ?_
        refine lm_val 25 (by kernel_rfl) (fun w1 c1 => (op_lss rfl rfl)) ?_
        refine lm_nil ?_
        refine xm_next ?_
        refine cm_cond (by kernel_rfl) rfl (fun h55 => ?_) (fun h55 => ?_)
        · skip
          refine cm_skip ?_
          refine xm_next ?_
          refine cm_seq ?_
          refine cm_block ?_
          refine cm_seq ?_
          refine cm_region ?_
          refine lm_val 28 (by kernel_rfl) (fun w1 c1 => (op_fieldL (m := 4) (k := 4) rfl (by kernel_rfl) rfl)) ?_
          refine lm_val 29 (by kernel_rfl) (fun w1 c1 => (op_load rfl (by kernel_rfl) (c1.cell 0 (u := .slice _ _ _) rfl rfl))) ?_
          refine lm_val 30 (by kernel_rfl) (fun w1 c1 => (op_move (v := .int .i64 _) rfl)) ?_
          refine lm_ck (fun h56 => ?_)
          refine lm_val 31 (by kernel_rfl) (fun w1 c1 => (op_indexA 5 rfl rfl (by kernel_rfl) ((hr_p01.old c1).addr h56.1 h56.2) hz_p01.2.2 h56.1 h56.2)) ?_
          refine lm_val 32 (by kernel_rfl) (fun w1 c1 => (op_field (m := 4) rfl (by kernel_rfl))) ?_
          refine lm_val 33 (by kernel_rfl) (fun w1 c1 => (op_load (v := .int .i64 ((ix p0.Items s53).Amount)) rfl (by kernel_rfl) ((hr_p01.old c1).cell (j := 4) h56.1 h56.2 rfl))) ?_
          refine lm_call 34 (V := (fun (r : Bool) (_u : Unit) => .bool r)) (HR := (fun (_r : Bool) (_u : Unit) => [])) (by kernel_rfl) (fun w1 => op_call (by kernel_rfl)) (fun r1 hr1 w1 c1 => m_recyclingref54_money_ok N w1 ((ix p0.Items s53).Amount)  r1 hr1) ?_
          intro r57 u58
          refine lm_val 35 (by kernel_rfl) (fun w1 c1 => (op_not rfl)) ?_
          refine lm_nil ?_
          refine xm_next ?_
          refine cm_condB (by kernel_rfl) rfl (fun h59 => ?_) (fun h59 => ?_)
          · skip
            refine cm_seq ?_
            refine cm_region ?_
            refine lm_val 36 (by kernel_rfl) (fun w1 c1 => (op_build (z := [.int .i64 0, .int .i64 0, .int .i64 0, .int .i64 0, .slice none 0 0, .int .i64 0]) (tab := [(0, 1), (1, 1), (2, 2), (4, 1), (5, 1)]) (cs := [.int .i64 _, .int .i64 _, .int .i64 _, .int .i64 _, .slice _ _ _, .int .i64 _]) [] (by kernel_rfl) (by kernel_rfl) fillOk_nil rfl)) ?_
            refine lm_storeA 1 [.int .i64 _, .int .i64 _, .int .i64 _, .int .i64 _, .slice _ _ _, .int .i64 _] [_, _, _, _, _, _] (H' := [_, blkE _ _ [_, _, _, _, _, _]]) (by kernel_rfl) rfl rfl (by kernel_rfl) rfl rfl (by kernel_rfl) rfl rfl ?_
            refine lm_val 7 (by kernel_rfl) (fun w1 c1 => (op_assign (v := .int .i64 _) rfl)) ?_
            refine lm_nil ?_
            refine xm_next ?_
            refine cm_ret ?_
            refine xm_inR ?_
            refine xm_thenR ?_
            refine xm_lret ?_
            refine xm_inR ?_
            refine xm_lret ?_
            refine xm_nilrow 55 5 encApiItem ?_
            exact xm_retCT rfl (by kernel_rfl) (show _ = Value.pointer (some ⟨_, 0, none⟩) from rfl) (by kernel_rfl) (fun w1 c1 => c1.cells 2 (ds := [.int .i64 _, .int .i64 _, .int .i64 _, .int .i64 _, .slice _ _ _, .int .i64 _]) rfl rfl) (by kernel_rfl) (show _ = Value.int .i64 _ from rfl) fun w1 c1 => ⟨(none, 0, 0), rfl, hsub [0] (by kernel_rfl) rfl w1 c1⟩
          · skip
            refine cm_skip ?_
            refine xm_inN ?_
            refine xm_next ?_
            refine cm_region ?_
            refine lm_val 26 (by kernel_rfl) (fun w1 c1 => (op_move (v := .int .i64 _) rfl)) ?_
            refine lm_ck (fun h60 => ?_)
            refine lm_val 27 (by kernel_rfl) (fun w1 c1 => (op_add rfl rfl h60)) ?_
            refine lm_val 8 (by kernel_rfl) (fun w1 c1 => (op_assign (v := .int .i64 _) rfl)) ?_
            refine lm_nil ?_
            exact xm_lnext () (sub_cons (by kernel_rfl) rfl (sub_cons (by kernel_rfl) rfl (sub_cons (by kernel_rfl) rfl (sub_cons (by kernel_rfl) rfl (sub_cons (by kernel_rfl) rfl sub_nil))))) (hsub [0, 1] (by kernel_rfl) rfl)
        · skip
          refine cm_exit ?_
          refine xm_thenE ?_
          refine xm_lexit ?_
          refine xm_here ?_
          exact xm_lnext () (sub_cons (by kernel_rfl) rfl (sub_cons (by kernel_rfl) rfl (sub_cons (by kernel_rfl) rfl (sub_cons (by kernel_rfl) rfl sub_nil)))) (hsub [0, 1] (by kernel_rfl) rfl)
      intro s35 u36
      refine cm_seq ?_
      refine cm_seq ?_
      refine cm_cutE [(42, .bool ((decide (p2 < 1)) || (decide (1000000000000 < p2))))] ?_ ?_
      · skip
        refine wq_val 37 (by kernel_rfl) (fun w1 c1 => (op_move (v := .int .i64 _) rfl)) ?_
        refine wq_dec 38 (by kernel_rfl) (fun w1 c1 => (op_lss rfl rfl)) (fun h61 => ?_) (fun h61 => ?_)
        · skip
          refine wq_val 39 (by kernel_rfl) (fun w1 c1 => (op_move (v := .bool true) rfl)) ?_
          refine wq_skip 40 (by kernel_rfl) ?_
          refine wq_skip 41 (by kernel_rfl) ?_
          refine wq_val 42 (by kernel_rfl) (fun w1 c1 => (op_pick_t (v := .bool true) rfl rfl)) ?_
          exact leaf_q (sub_out 6 _ rfl (by kernel_rfl) ⟨(congrArg Value.bool (by rw [decide_eq_true h61] <;> rfl)), trivial⟩)
        · skip
          refine wq_val 39 (by kernel_rfl) (fun w1 c1 => (op_move (v := .bool false) rfl)) ?_
          refine wq_val 40 (by kernel_rfl) (fun w1 c1 => (op_move (v := .int .i64 _) rfl)) ?_
          refine wq_val 41 (by kernel_rfl) (fun w1 c1 => (op_gtr rfl rfl)) ?_
          refine wq_val 42 (by kernel_rfl) (fun w1 c1 => (op_pick_f (v := .bool _) rfl rfl)) ?_
          exact leaf_q (sub_out 6 _ rfl (by kernel_rfl) ⟨(congrArg Value.bool (by rw [decide_eq_false h61] <;> rfl)), trivial⟩)
      refine xm_next ?_
      refine cm_condB (by kernel_rfl) rfl (fun h62 => ?_) (fun h62 => ?_)
      · skip
        refine cm_seq ?_
        refine cm_region ?_
        refine lm_val 43 (by kernel_rfl) (fun w1 c1 => (op_build (z := [.int .i64 0, .int .i64 0, .int .i64 0, .int .i64 0, .slice none 0 0, .int .i64 0]) (tab := [(0, 1), (1, 1), (2, 2), (4, 1), (5, 1)]) (cs := [.int .i64 _, .int .i64 _, .int .i64 _, .int .i64 _, .slice _ _ _, .int .i64 _]) [] (by kernel_rfl) (by kernel_rfl) fillOk_nil rfl)) ?_
        refine lm_storeA 1 [.int .i64 _, .int .i64 _, .int .i64 _, .int .i64 _, .slice _ _ _, .int .i64 _] [_, _, _, _, _, _] (H' := [_, blkE _ _ [_, _, _, _, _, _]]) (by kernel_rfl) rfl rfl (by kernel_rfl) rfl rfl (by kernel_rfl) rfl rfl ?_
        refine lm_val 7 (by kernel_rfl) (fun w1 c1 => (op_assign (v := .int .i64 _) rfl)) ?_
        refine lm_nil ?_
        refine xm_next ?_
        refine cm_ret ?_
        refine xm_thenR ?_
        refine xm_nilrow 55 5 encApiItem ?_
        exact xm_retCT rfl (by kernel_rfl) (show _ = Value.pointer (some ⟨_, 0, none⟩) from rfl) (by kernel_rfl) (fun w1 c1 => c1.cells 2 (ds := [.int .i64 _, .int .i64 _, .int .i64 _, .int .i64 _, .slice _ _ _, .int .i64 _]) rfl rfl) (by kernel_rfl) (show _ = Value.int .i64 _ from rfl) fun w1 c1 => ⟨(none, 0, 0), rfl, hsub [0] (by kernel_rfl) rfl w1 c1⟩
      · skip
        refine cm_skip ?_
        refine xm_next ?_
        refine cm_seq ?_
        refine cm_region ?_
        refine lm_val 45 (by kernel_rfl) (fun w1 c1 => (op_fieldL (m := 4) (k := 4) rfl (by kernel_rfl) rfl)) ?_
        refine lm_val 46 (by kernel_rfl) (fun w1 c1 => (op_load rfl (by kernel_rfl) (c1.cell 0 (u := .slice _ _ _) rfl rfl))) ?_
        refine lm_val 47 (by kernel_rfl) (fun w1 c1 => (op_move (v := .int .i64 _) rfl)) ?_
        refine lm_call 48 (V := (fun (r : Int × Bool) (_u : Unit) => .tuple #[.int .i64 r.1, .bool r.2])) (HR := (fun (_r : Int × Bool) (_u : Unit) => [])) (by kernel_rfl) (fun w1 => op_call (by kernel_rfl)) (fun r1 hr1 w1 c1 => m_recyclingref54_Charged_ok N w1 p0.Items p1 A_p01 n_p01 c_p01 (hr_p01.old c1) hz_p01 r1 hr1) ?_
        intro r63 u64
        refine lm_val 44 (by kernel_rfl) (fun w1 c1 => (op_move (v := .tuple _) rfl)) ?_
        refine lm_val 49 (by kernel_rfl) (fun w1 c1 => (op_extract (v := .int .i64 _) rfl rfl)) ?_
        refine lm_val 50 (by kernel_rfl) (fun w1 c1 => (op_extract (v := .bool _) rfl rfl)) ?_
        refine lm_val 9 (by kernel_rfl) (fun w1 c1 => (op_assign (v := .int .i64 _) rfl)) ?_
        refine lm_val 10 (by kernel_rfl) (fun w1 c1 => (op_assign (v := .bool _) rfl)) ?_
        refine lm_nil ?_
        refine xm_next ?_
        refine cm_seq ?_
        refine cm_seq ?_
        refine cm_region ?_
        refine lm_val 51 (by kernel_rfl) (fun w1 c1 => (op_move (v := .bool _) rfl)) ?_
        refine lm_val 52 (by kernel_rfl) (fun w1 c1 => (op_not rfl)) ?_
        refine lm_nil ?_
        refine xm_next ?_
        refine cm_condB (by kernel_rfl) rfl (fun h65 => ?_) (fun h65 => ?_)
        · skip
          refine cm_seq ?_
          refine cm_region ?_
          refine lm_val 53 (by kernel_rfl) (fun w1 c1 => (op_build (z := [.int .i64 0, .int .i64 0, .int .i64 0, .int .i64 0, .slice none 0 0, .int .i64 0]) (tab := [(0, 1), (1, 1), (2, 2), (4, 1), (5, 1)]) (cs := [.int .i64 _, .int .i64 _, .int .i64 _, .int .i64 _, .slice _ _ _, .int .i64 _]) [] (by kernel_rfl) (by kernel_rfl) fillOk_nil rfl)) ?_
          refine lm_storeA 1 [.int .i64 _, .int .i64 _, .int .i64 _, .int .i64 _, .slice _ _ _, .int .i64 _] [_, _, _, _, _, _] (H' := [_, blkE _ _ [_, _, _, _, _, _]]) (by kernel_rfl) rfl rfl (by kernel_rfl) rfl rfl (by kernel_rfl) rfl rfl ?_
          refine lm_val 7 (by kernel_rfl) (fun w1 c1 => (op_assign (v := .int .i64 _) rfl)) ?_
          refine lm_nil ?_
          refine xm_next ?_
          refine cm_ret ?_
          refine xm_thenR ?_
          refine xm_nilrow 55 5 encApiItem ?_
          exact xm_retCT rfl (by kernel_rfl) (show _ = Value.pointer (some ⟨_, 0, none⟩) from rfl) (by kernel_rfl) (fun w1 c1 => c1.cells 2 (ds := [.int .i64 _, .int .i64 _, .int .i64 _, .int .i64 _, .slice _ _ _, .int .i64 _]) rfl rfl) (by kernel_rfl) (show _ = Value.int .i64 _ from rfl) fun w1 c1 => ⟨(none, 0, 0), rfl, hsub [0] (by kernel_rfl) rfl w1 c1⟩
        · skip
          refine cm_skip ?_
          refine xm_next ?_
          refine cm_seq ?_
          refine cm_seq ?_
          refine cm_region ?_
          refine lm_val 54 (by kernel_rfl) (fun w1 c1 => (op_fieldL (m := 4) (k := 4) rfl (by kernel_rfl) rfl)) ?_
          refine lm_val 55 (by kernel_rfl) (fun w1 c1 => (op_load rfl (by kernel_rfl) (c1.cell 0 (u := .slice _ _ _) rfl rfl))) ?_
          refine lm_val 56 (by kernel_rfl) (fun w1 c1 => (op_move (v := .int .i64 _) rfl)) ?_
          refine lm_call 57 (V := (fun (r : Int) (_u : Unit) => .int .i64 r)) (HR := (fun (_r : Int) (_u : Unit) => [])) (by kernel_rfl) (fun w1 => op_call (by kernel_rfl)) (fun r1 hr1 w1 c1 => m_recyclingref54_Credited_ok N w1 p0.Items p1 A_p01 n_p01 c_p01 (hr_p01.old c1) hz_p01 r1 hr1) ?_
          intro r66 u67
          refine lm_val 58 (by kernel_rfl) (fun w1 c1 => (op_move (v := .int .i64 _) rfl)) ?_
          refine lm_ck (fun h68 => ?_)
          refine lm_val 59 (by kernel_rfl) (fun w1 c1 => (op_add rfl rfl h68)) ?_
          refine lm_val 60 (by kernel_rfl) (fun w1 c1 => (op_move (v := .int .i64 _) rfl)) ?_
          refine lm_val 61 (by kernel_rfl) (fun w1 c1 => (op_gtr rfl rfl)) ?_
          refine lm_nil ?_
          refine xm_next ?_
          refine cm_cond (by kernel_rfl) rfl (fun h69 => ?_) (fun h69 => ?_)
          · skip
            refine cm_seq ?_
            refine cm_region ?_
            refine lm_val 62 (by kernel_rfl) (fun w1 c1 => (op_build (z := [.int .i64 0, .int .i64 0, .int .i64 0, .int .i64 0, .slice none 0 0, .int .i64 0]) (tab := [(0, 1), (1, 1), (2, 2), (4, 1), (5, 1)]) (cs := [.int .i64 _, .int .i64 _, .int .i64 _, .int .i64 _, .slice _ _ _, .int .i64 _]) [] (by kernel_rfl) (by kernel_rfl) fillOk_nil rfl)) ?_
            refine lm_storeA 1 [.int .i64 _, .int .i64 _, .int .i64 _, .int .i64 _, .slice _ _ _, .int .i64 _] [_, _, _, _, _, _] (H' := [_, blkE _ _ [_, _, _, _, _, _]]) (by kernel_rfl) rfl rfl (by kernel_rfl) rfl rfl (by kernel_rfl) rfl rfl ?_
            refine lm_val 7 (by kernel_rfl) (fun w1 c1 => (op_assign (v := .int .i64 _) rfl)) ?_
            refine lm_nil ?_
            refine xm_next ?_
            refine cm_ret ?_
            refine xm_thenR ?_
            refine xm_nilrow 55 5 encApiItem ?_
            exact xm_retCT rfl (by kernel_rfl) (show _ = Value.pointer (some ⟨_, 0, none⟩) from rfl) (by kernel_rfl) (fun w1 c1 => c1.cells 2 (ds := [.int .i64 _, .int .i64 _, .int .i64 _, .int .i64 _, .slice _ _ _, .int .i64 _]) rfl rfl) (by kernel_rfl) (show _ = Value.int .i64 _ from rfl) fun w1 c1 => ⟨(none, 0, 0), rfl, hsub [0] (by kernel_rfl) rfl w1 c1⟩
          · skip
            refine cm_skip ?_
            refine xm_next ?_
            refine cm_seq ?_
            refine cm_region ?_
            refine lm_slice0 63 (el := 55) (sz := 5) (bytes := 40) (enc := encApiItem) (by kernel_rfl) (by kernel_rfl) ?_
            intro A70 n71 k72 h73
            refine lm_val 64 (by kernel_rfl) (fun w1 c1 => (op_fieldL (m := 4) (k := 4) rfl (by kernel_rfl) rfl)) ?_
            refine lm_val 65 (by kernel_rfl) (fun w1 c1 => (op_load rfl (by kernel_rfl) (c1.cell 1 (u := .slice _ _ _) rfl rfl))) ?_
            refine lm_ck (fun h74 => ?_)
            refine lm_append 66 0 (el := 55) (sz := 5) (bytes := 40) (enc := encApiItem) (l2 := p0.Items) (by kernel_rfl) (by kernel_rfl) encApiItem_len encApiItem_one rfl rfl rfl (fun w1 c1 => hz_p01) (fun w1 c1 => (hr_p01.old c1)) h74 ?_ (by kernel_rfl)
            intro A75 n76 k77
            refine lm_val 67 (by kernel_rfl) (fun w1 c1 => (op_move (v := .int .i64 _) rfl)) ?_
            refine lm_val 68 (by kernel_rfl) (fun w1 c1 => (op_move (v := .int .i64 _) rfl)) ?_
            refine lm_ck (fun h78 => ?_)
            refine lm_val 69 (by kernel_rfl) (fun w1 c1 => (op_neg rfl h78)) ?_
            refine lm_val 70 (by kernel_rfl) (fun w1 c1 => (op_move (v := .int .i64 _) rfl)) ?_
            refine lm_ck (fun h79 => ?_)
            refine lm_val 71 (by kernel_rfl) (fun w1 c1 => (op_neg rfl h79)) ?_
            refine lm_val 72 (by kernel_rfl) (fun w1 c1 => (op_build (z := [.int .i64 0, .int .i64 0, .int .i64 0, .int .i64 0, .int .i64 0]) (tab := [(0, 1), (1, 1), (2, 1), (3, 1), (4, 1)]) (cs := [.int .i64 _, .int .i64 _, .int .i64 _, .int .i64 _, .int .i64 _]) [(0, [.int .i64 _]), (1, [.int .i64 _]), (2, [.int .i64 _]), (3, [.int .i64 _]), (4, [.int .i64 _])] (by kernel_rfl) (by kernel_rfl) (fillOk_cons rfl rfl rfl (fillOk_cons rfl rfl rfl (fillOk_cons rfl rfl rfl (fillOk_cons rfl rfl rfl (fillOk_cons rfl rfl rfl fillOk_nil))))) rfl)) ?_
            refine lm_slice1 73 (el := 55) (sz := 5) (bytes := 40) (enc := encApiItem) (ApiItem.mk 4 p1 1 (-p2) (-p2)) (by kernel_rfl) (by kernel_rfl) encApiItem_len rfl (by kernel_rfl) ?_
            intro A80 n81 k82 h83
            refine lm_ck (fun h84 => ?_)
            refine lm_append 74 1 (el := 55) (sz := 5) (bytes := 40) (enc := encApiItem) (l2 := ([(ApiItem.mk 4 p1 1 (-p2) (-p2))])) (by kernel_rfl) (by kernel_rfl) encApiItem_len encApiItem_one rfl rfl rfl (fun w1 c1 => (c1.ownZ 0 rfl)) (fun w1 c1 => (c1.own 0 rfl encApiItem_len)) h84 ?_ (by kernel_rfl)
            intro A85 n86 k87
            refine lm_val 75 (by kernel_rfl) (fun w1 c1 => (op_fieldL (m := 4) (k := 4) rfl (by kernel_rfl) rfl)) ?_
            refine lm_store1 2 (v := .slice _ _ _) (H' := [_, _, blkE _ _ [_, _, _, _, _, _], _]) (by kernel_rfl) rfl rfl (by kernel_rfl) rfl rfl (by kernel_rfl) rfl ?_
            refine lm_nil ?_
            refine xm_next ?_
            refine cm_seq ?_
            refine cm_region ?_
            refine lm_val 76 (by kernel_rfl) (fun w1 c1 => (op_fieldL (m := 5) (k := 5) rfl (by kernel_rfl) rfl)) ?_
            refine lm_val 77 (by kernel_rfl) (fun w1 c1 => (op_load rfl (by kernel_rfl) (c1.cell 2 (u := .int .i64 _) rfl rfl))) ?_
            refine lm_val 78 (by kernel_rfl) (fun w1 c1 => (op_move (v := .int .i64 _) rfl)) ?_
            refine lm_ck (fun h88 => ?_)
            refine lm_val 79 (by kernel_rfl) (fun w1 c1 => (op_sub rfl rfl h88)) ?_
            refine lm_val 80 (by kernel_rfl) (fun w1 c1 => (op_fieldL (m := 5) (k := 5) rfl (by kernel_rfl) rfl)) ?_
            refine lm_store1 2 (v := .int .i64 _) (H' := [_, _, blkE _ _ [_, _, _, _, _, _], _]) (by kernel_rfl) rfl rfl (by kernel_rfl) rfl rfl (by kernel_rfl) rfl ?_
            refine lm_nil ?_
            refine xm_next ?_
            refine cm_seq ?_
            refine cm_region ?_
            refine lm_val 81 (by kernel_rfl) (fun w1 c1 => (op_loadR [.int .i64 _, .int .i64 _, .int .i64 _, .int .i64 _, .slice _ _ _, .int .i64 _] rfl (by kernel_rfl) (c1.cells 2 rfl rfl))) ?_
            refine lm_storeA 3 [.int .i64 _, .int .i64 _, .int .i64 _, .int .i64 _, .slice _ _ _, .int .i64 _] [_, _, _, _, _, _] (H' := [_, _, _, blkE _ _ [_, _, _, _, _, _]]) (by kernel_rfl) rfl rfl (by kernel_rfl) rfl rfl (by kernel_rfl) rfl rfl ?_
            refine lm_val 7 (by kernel_rfl) (fun w1 c1 => (op_assign (v := .int .i64 _) rfl)) ?_
            refine lm_nil ?_
            refine xm_next ?_
            refine cm_ret ?_
            exact xm_retCT rfl (by kernel_rfl) (show _ = Value.pointer (some ⟨_, 0, none⟩) from rfl) (by kernel_rfl) (fun w1 c1 => c1.cells 3 (ds := [.int .i64 _, .int .i64 _, .int .i64 _, .int .i64 _, .slice _ _ _, .int .i64 _]) rfl rfl) (by kernel_rfl) (show _ = Value.int .i64 _ from rfl) fun w1 c1 => ⟨(A85, n86, k87), rfl, hsub [1] (by kernel_rfl) rfl w1 c1⟩
/-- recyclingref57.Apply -/
def m_recyclingref57_Apply (N : Nat) (p0 : ApiBill) (p1 : ApiComplaint) (p2 : ApiRuling) : Option (ApiBill × Int) :=
  Option.bind (m_recyclingref57_Check N p1) fun r9 => (if r9 ≠ 0 then
    some (((ApiBill.mk 0 0 (ApiWindow.mk 0 0) ([] : List ApiItem) 0), r9))
  else
    (if p1.Bill ≠ p0.ID then
      some (((ApiBill.mk 0 0 (ApiWindow.mk 0 0) ([] : List ApiItem) 0), (34 : Int)))
    else
      (if p2.Err ≠ 0 then
        some (((ApiBill.mk 0 0 (ApiWindow.mk 0 0) ([] : List ApiItem) 0), (13 : Int)))
      else
        Option.bind (m_recyclingref57_disputed N p0 p1) fun r14 => (if (!r14.2) = true then
          some (((ApiBill.mk 0 0 (ApiWindow.mk 0 0) ([] : List ApiItem) 0), (7 : Int)))
        else
          Option.bind (m_recyclingref54_Credit N p0 r14.1.Ref p2.Credit) fun r18 => some ((r18.1, r18.2))))))
set_option maxHeartbeats 2000000 in
set_option maxRecDepth 20000 in
theorem m_recyclingref57_Apply_ok (N : Nat) (w0 : World) (p0 : ApiBill) (p1 : ApiComplaint) (p2 : ApiRuling) (A_p01 : Option Addr) (n_p01 c_p01 : Nat) (hr_p01 : RdE w0 5 encApiItem A_p01 p0.Items) (hz_p01 : SW A_p01 n_p01 c_p01 (List.length p0.Items)) (r : ApiBill × Int) (hr : m_recyclingref57_Apply N p0 p1 p2 = some r) :
    Calls Try.prog 15 [.agg #[.int .i64 p0.ID, .int .i64 p0.Household, .int .i64 p0.When.From, .int .i64 p0.When.To, .slice A_p01 n_p01 c_p01, .int .i64 p0.Total], .agg #[.int .i64 p1.Bill, .int .i64 p1.Item, .int .i64 p1.At, .int .i64 p1.Kind], .agg #[.int .i64 p2.Credit, .int .i64 p2.Err]].toArray w0 fun x w1 => ∃ u, x = .returned ((fun (r : ApiBill × Int) (u : (Option Addr) × Nat × Nat) => .tuple #[.agg #[.int .i64 r.1.ID, .int .i64 r.1.Household, .int .i64 r.1.When.From, .int .i64 r.1.When.To, .slice u.1 u.2.1 u.2.2, .int .i64 r.1.Total], .int .i64 r.2]) r u) ∧ Hs w0 ((fun (r : ApiBill × Int) (u : (Option Addr) × Nat × Nat) => [ownE 55 5 encApiItem u.1 u.2.1 u.2.2 r.1.Items]) r u) w1 := by
  refine calls_cm (n := 44) (R := fun r x w1 => ∃ u, x = .returned ((fun (r : ApiBill × Int) (u : (Option Addr) × Nat × Nat) => .tuple #[.agg #[.int .i64 r.1.ID, .int .i64 r.1.Household, .int .i64 r.1.When.From, .int .i64 r.1.When.To, .slice u.1 u.2.1 u.2.2, .int .i64 r.1.Total], .int .i64 r.2]) r u) ∧ Hs w0 ((fun (r : ApiBill × Int) (u : (Option Addr) × Nat × Nat) => [ownE 55 5 encApiItem u.1 u.2.1 u.2.2 r.1.Items]) r u) w1) Try.func15 rfl rfl (Nat.le_of_ble_eq_true rfl) ?_ r hr
  unfold m_recyclingref57_Apply
  refine cm_seq ?_
  refine cm_region ?_
  refine lm_box 3 [.int .i64 _, .int .i64 _, .int .i64 _, .int .i64 _, .slice _ _ _, .int .i64 _] (by kernel_rfl) rfl ?_
  intro b5
  refine lm_box 4 [.int .i64 _, .int .i64 _, .int .i64 _, .int .i64 _] (by kernel_rfl) rfl ?_
  intro b6
  refine lm_box 5 [.int .i64 _, .int .i64 _] (by kernel_rfl) rfl ?_
  intro b7
  refine lm_alloc 6 [.int .i64 0, .int .i64 0, .int .i64 0, .int .i64 0, .slice none 0 0, .int .i64 0] (v := .agg #[.int .i64 0, .int .i64 0, .int .i64 0, .int .i64 0, .slice none 0 0, .int .i64 0]) (by kernel_rfl) (by kernel_rfl) rfl ?_
  intro b8
  refine lm_val 7 (by kernel_rfl) (fun w1 c1 => (op_assign (v := .int .i64 _) rfl)) ?_
  refine lm_nil ?_
  refine xm_next ?_
  refine cm_seq ?_
  refine cm_region ?_
  refine lm_val 11 (by kernel_rfl) (fun w1 c1 => (op_loadR [.int .i64 _, .int .i64 _, .int .i64 _, .int .i64 _] rfl (by kernel_rfl) (c1.cells 2 rfl rfl))) ?_
  refine lm_call 12 (V := (fun (r : Int) (_u : Unit) => .int .i64 r)) (HR := (fun (_r : Int) (_u : Unit) => [])) (by kernel_rfl) (fun w1 => op_call (by kernel_rfl)) (fun r1 hr1 w1 c1 => m_recyclingref57_Check_ok N w1 p1  r1 hr1) ?_
  intro r9 u10
  refine lm_val 8 (by kernel_rfl) (fun w1 c1 => (op_assign (v := .int .i64 _) rfl)) ?_
  refine lm_nil ?_
  refine xm_next ?_
  refine cm_seq ?_
  refine cm_seq ?_
  refine cm_region ?_
  refine lm_val 13 (by kernel_rfl) (fun w1 c1 => (op_move (v := .int .i64 _) rfl)) ?_
  refine lm_val 14 (by kernel_rfl) (fun w1 c1 => (op_neq rfl rfl)) ?_
  refine lm_nil ?_
  refine xm_next ?_
  refine cm_cond (by kernel_rfl) rfl (fun h11 => ?_) (fun h11 => ?_)
  · skip
    refine cm_seq ?_
    refine cm_region ?_
    refine lm_val 15 (by kernel_rfl) (fun w1 c1 => (op_build (z := [.int .i64 0, .int .i64 0, .int .i64 0, .int .i64 0, .slice none 0 0, .int .i64 0]) (tab := [(0, 1), (1, 1), (2, 2), (4, 1), (5, 1)]) (cs := [.int .i64 _, .int .i64 _, .int .i64 _, .int .i64 _, .slice _ _ _, .int .i64 _]) [] (by kernel_rfl) (by kernel_rfl) fillOk_nil rfl)) ?_
    refine lm_val 16 (by kernel_rfl) (fun w1 c1 => (op_move (v := .int .i64 _) rfl)) ?_
    refine lm_storeA 0 [.int .i64 _, .int .i64 _, .int .i64 _, .int .i64 _, .slice _ _ _, .int .i64 _] [_, _, _, _, _, _] (H' := [blkE _ _ [_, _, _, _, _, _], _, _, _]) (by kernel_rfl) rfl rfl (by kernel_rfl) rfl rfl (by kernel_rfl) rfl rfl ?_
    refine lm_val 7 (by kernel_rfl) (fun w1 c1 => (op_assign (v := .int .i64 _) rfl)) ?_
    refine lm_nil ?_
    refine xm_next ?_
    refine cm_ret ?_
    refine xm_thenR ?_
    refine xm_nilrow 55 5 encApiItem ?_
    exact xm_retCT rfl (by kernel_rfl) (show _ = Value.pointer (some ⟨_, 0, none⟩) from rfl) (by kernel_rfl) (fun w1 c1 => c1.cells 1 (ds := [.int .i64 _, .int .i64 _, .int .i64 _, .int .i64 _, .slice _ _ _, .int .i64 _]) rfl rfl) (by kernel_rfl) (show _ = Value.int .i64 _ from rfl) fun w1 c1 => ⟨(none, 0, 0), rfl, hsub [0] (by kernel_rfl) rfl w1 c1⟩
  · skip
    refine cm_skip ?_
    refine xm_next ?_
    refine cm_seq ?_
    refine cm_seq ?_
    refine cm_region ?_
    refine lm_val 17 (by kernel_rfl) (fun w1 c1 => (op_fieldL (m := 0) (k := 0) rfl (by kernel_rfl) rfl)) ?_
    refine lm_val 18 (by kernel_rfl) (fun w1 c1 => (op_load rfl (by kernel_rfl) (c1.cell 2 (u := .int .i64 _) rfl rfl))) ?_
    refine lm_val 19 (by kernel_rfl) (fun w1 c1 => (op_fieldL (m := 0) (k := 0) rfl (by kernel_rfl) rfl)) ?_
    refine lm_val 20 (by kernel_rfl) (fun w1 c1 => (op_load rfl (by kernel_rfl) (c1.cell 3 (u := .int .i64 _) rfl rfl))) ?_
    refine lm_val 21 (by kernel_rfl) (fun w1 c1 => (op_neq rfl rfl)) ?_
    refine lm_nil ?_
    refine xm_next ?_
    refine cm_cond (by kernel_rfl) rfl (fun h12 => ?_) (fun h12 => ?_)
    · skip
      refine cm_seq ?_
      refine cm_region ?_
      refine lm_val 22 (by kernel_rfl) (fun w1 c1 => (op_build (z := [.int .i64 0, .int .i64 0, .int .i64 0, .int .i64 0, .slice none 0 0, .int .i64 0]) (tab := [(0, 1), (1, 1), (2, 2), (4, 1), (5, 1)]) (cs := [.int .i64 _, .int .i64 _, .int .i64 _, .int .i64 _, .slice _ _ _, .int .i64 _]) [] (by kernel_rfl) (by kernel_rfl) fillOk_nil rfl)) ?_
      refine lm_storeA 0 [.int .i64 _, .int .i64 _, .int .i64 _, .int .i64 _, .slice _ _ _, .int .i64 _] [_, _, _, _, _, _] (H' := [blkE _ _ [_, _, _, _, _, _], _, _, _]) (by kernel_rfl) rfl rfl (by kernel_rfl) rfl rfl (by kernel_rfl) rfl rfl ?_
      refine lm_val 7 (by kernel_rfl) (fun w1 c1 => (op_assign (v := .int .i64 _) rfl)) ?_
      refine lm_nil ?_
      refine xm_next ?_
      refine cm_ret ?_
      refine xm_thenR ?_
      refine xm_nilrow 55 5 encApiItem ?_
      exact xm_retCT rfl (by kernel_rfl) (show _ = Value.pointer (some ⟨_, 0, none⟩) from rfl) (by kernel_rfl) (fun w1 c1 => c1.cells 1 (ds := [.int .i64 _, .int .i64 _, .int .i64 _, .int .i64 _, .slice _ _ _, .int .i64 _]) rfl rfl) (by kernel_rfl) (show _ = Value.int .i64 _ from rfl) fun w1 c1 => ⟨(none, 0, 0), rfl, hsub [0] (by kernel_rfl) rfl w1 c1⟩
    · skip
      refine cm_skip ?_
      refine xm_next ?_
      refine cm_seq ?_
      refine cm_seq ?_
      refine cm_region ?_
      refine lm_val 23 (by kernel_rfl) (fun w1 c1 => (op_fieldL (m := 1) (k := 1) rfl (by kernel_rfl) rfl)) ?_
      refine lm_val 24 (by kernel_rfl) (fun w1 c1 => (op_load rfl (by kernel_rfl) (c1.cell 1 (u := .int .i64 _) rfl rfl))) ?_
      refine lm_val 25 (by kernel_rfl) (fun w1 c1 => (op_neq rfl rfl)) ?_
      refine lm_nil ?_
      refine xm_next ?_
      refine cm_cond (by kernel_rfl) rfl (fun h13 => ?_) (fun h13 => ?_)
      · skip
        refine cm_seq ?_
        refine cm_region ?_
        refine lm_val 26 (by kernel_rfl) (fun w1 c1 => (op_build (z := [.int .i64 0, .int .i64 0, .int .i64 0, .int .i64 0, .slice none 0 0, .int .i64 0]) (tab := [(0, 1), (1, 1), (2, 2), (4, 1), (5, 1)]) (cs := [.int .i64 _, .int .i64 _, .int .i64 _, .int .i64 _, .slice _ _ _, .int .i64 _]) [] (by kernel_rfl) (by kernel_rfl) fillOk_nil rfl)) ?_
        refine lm_storeA 0 [.int .i64 _, .int .i64 _, .int .i64 _, .int .i64 _, .slice _ _ _, .int .i64 _] [_, _, _, _, _, _] (H' := [blkE _ _ [_, _, _, _, _, _], _, _, _]) (by kernel_rfl) rfl rfl (by kernel_rfl) rfl rfl (by kernel_rfl) rfl rfl ?_
        refine lm_val 7 (by kernel_rfl) (fun w1 c1 => (op_assign (v := .int .i64 _) rfl)) ?_
        refine lm_nil ?_
        refine xm_next ?_
        refine cm_ret ?_
        refine xm_thenR ?_
        refine xm_nilrow 55 5 encApiItem ?_
        exact xm_retCT rfl (by kernel_rfl) (show _ = Value.pointer (some ⟨_, 0, none⟩) from rfl) (by kernel_rfl) (fun w1 c1 => c1.cells 1 (ds := [.int .i64 _, .int .i64 _, .int .i64 _, .int .i64 _, .slice _ _ _, .int .i64 _]) rfl rfl) (by kernel_rfl) (show _ = Value.int .i64 _ from rfl) fun w1 c1 => ⟨(none, 0, 0), rfl, hsub [0] (by kernel_rfl) rfl w1 c1⟩
      · skip
        refine cm_skip ?_
        refine xm_next ?_
        refine cm_seq ?_
        refine cm_region ?_
        refine lm_val 28 (by kernel_rfl) (fun w1 c1 => (op_loadR [.int .i64 _, .int .i64 _, .int .i64 _, .int .i64 _, .slice _ _ _, .int .i64 _] rfl (by kernel_rfl) (c1.cells 3 rfl rfl))) ?_
        refine lm_val 29 (by kernel_rfl) (fun w1 c1 => (op_loadR [.int .i64 _, .int .i64 _, .int .i64 _, .int .i64 _] rfl (by kernel_rfl) (c1.cells 2 rfl rfl))) ?_
        refine lm_call 30 (V := (fun (r : ApiItem × Bool) (_u : Unit) => .tuple #[.agg #[.int .i64 r.1.Kind, .int .i64 r.1.Ref, .int .i64 r.1.Count, .int .i64 r.1.Price, .int .i64 r.1.Amount], .bool r.2])) (HR := (fun (_r : ApiItem × Bool) (_u : Unit) => [])) (by kernel_rfl) (fun w1 => op_call (by kernel_rfl)) (fun r1 hr1 w1 c1 => m_recyclingref57_disputed_ok N w1 p0 p1 A_p01 n_p01 c_p01 (hr_p01.old c1) hz_p01 r1 hr1) ?_
        intro r14 u15
        refine lm_val 27 (by kernel_rfl) (fun w1 c1 => (op_move (v := .tuple _) rfl)) ?_
        refine lm_val 31 (by kernel_rfl) (fun w1 c1 => (op_extract (v := .agg _) rfl rfl)) ?_
        refine lm_val 32 (by kernel_rfl) (fun w1 c1 => (op_extract (v := .bool _) rfl rfl)) ?_
        refine lm_alloc 9 [.int .i64 0, .int .i64 0, .int .i64 0, .int .i64 0, .int .i64 0] (v := .agg #[.int .i64 0, .int .i64 0, .int .i64 0, .int .i64 0, .int .i64 0]) (by kernel_rfl) (by kernel_rfl) rfl ?_
        intro b16
        refine lm_storeA 0 [.int .i64 _, .int .i64 _, .int .i64 _, .int .i64 _, .int .i64 _] [_, _, _, _, _] (H' := [blkE _ _ [_, _, _, _, _], _, _, _, _]) (by kernel_rfl) rfl rfl (by kernel_rfl) rfl rfl (by kernel_rfl) rfl rfl ?_
        refine lm_val 10 (by kernel_rfl) (fun w1 c1 => (op_assign (v := .bool _) rfl)) ?_
        refine lm_nil ?_
        refine xm_next ?_
        refine cm_seq ?_
        refine cm_seq ?_
        refine cm_region ?_
        refine lm_val 33 (by kernel_rfl) (fun w1 c1 => (op_move (v := .bool _) rfl)) ?_
        refine lm_val 34 (by kernel_rfl) (fun w1 c1 => (op_not rfl)) ?_
        refine lm_nil ?_
        refine xm_next ?_
        refine cm_condB (by kernel_rfl) rfl (fun h17 => ?_) (fun h17 => ?_)
        · skip
          refine cm_seq ?_
          refine cm_region ?_
          refine lm_val 35 (by kernel_rfl) (fun w1 c1 => (op_build (z := [.int .i64 0, .int .i64 0, .int .i64 0, .int .i64 0, .slice none 0 0, .int .i64 0]) (tab := [(0, 1), (1, 1), (2, 2), (4, 1), (5, 1)]) (cs := [.int .i64 _, .int .i64 _, .int .i64 _, .int .i64 _, .slice _ _ _, .int .i64 _]) [] (by kernel_rfl) (by kernel_rfl) fillOk_nil rfl)) ?_
          refine lm_storeA 1 [.int .i64 _, .int .i64 _, .int .i64 _, .int .i64 _, .slice _ _ _, .int .i64 _] [_, _, _, _, _, _] (H' := [_, blkE _ _ [_, _, _, _, _, _], _, _, _]) (by kernel_rfl) rfl rfl (by kernel_rfl) rfl rfl (by kernel_rfl) rfl rfl ?_
          refine lm_val 7 (by kernel_rfl) (fun w1 c1 => (op_assign (v := .int .i64 _) rfl)) ?_
          refine lm_nil ?_
          refine xm_next ?_
          refine cm_ret ?_
          refine xm_thenR ?_
          refine xm_nilrow 55 5 encApiItem ?_
          exact xm_retCT rfl (by kernel_rfl) (show _ = Value.pointer (some ⟨_, 0, none⟩) from rfl) (by kernel_rfl) (fun w1 c1 => c1.cells 2 (ds := [.int .i64 _, .int .i64 _, .int .i64 _, .int .i64 _, .slice _ _ _, .int .i64 _]) rfl rfl) (by kernel_rfl) (show _ = Value.int .i64 _ from rfl) fun w1 c1 => ⟨(none, 0, 0), rfl, hsub [0] (by kernel_rfl) rfl w1 c1⟩
        · skip
          refine cm_skip ?_
          refine xm_next ?_
          refine cm_seq ?_
          refine cm_region ?_
          refine lm_val 36 (by kernel_rfl) (fun w1 c1 => (op_loadR [.int .i64 _, .int .i64 _, .int .i64 _, .int .i64 _, .slice _ _ _, .int .i64 _] rfl (by kernel_rfl) (c1.cells 4 rfl rfl))) ?_
          refine lm_val 37 (by kernel_rfl) (fun w1 c1 => (op_fieldL (m := 1) (k := 1) rfl (by kernel_rfl) rfl)) ?_
          refine lm_val 38 (by kernel_rfl) (fun w1 c1 => (op_load rfl (by kernel_rfl) (c1.cell 0 (u := .int .i64 _) rfl rfl))) ?_
          refine lm_val 39 (by kernel_rfl) (fun w1 c1 => (op_fieldL (m := 0) (k := 0) rfl (by kernel_rfl) rfl)) ?_
          refine lm_val 40 (by kernel_rfl) (fun w1 c1 => (op_load rfl (by kernel_rfl) (c1.cell 2 (u := .int .i64 _) rfl rfl))) ?_
          refine lm_call 41 (V := (fun (r : ApiBill × Int) (u : (Option Addr) × Nat × Nat) => .tuple #[.agg #[.int .i64 r.1.ID, .int .i64 r.1.Household, .int .i64 r.1.When.From, .int .i64 r.1.When.To, .slice u.1 u.2.1 u.2.2, .int .i64 r.1.Total], .int .i64 r.2])) (HR := (fun (r : ApiBill × Int) (u : (Option Addr) × Nat × Nat) => [ownE 55 5 encApiItem u.1 u.2.1 u.2.2 r.1.Items])) (by kernel_rfl) (fun w1 => op_call (by kernel_rfl)) (fun r1 hr1 w1 c1 => m_recyclingref54_Credit_ok N w1 p0 r14.1.Ref p2.Credit A_p01 n_p01 c_p01 (hr_p01.old c1) hz_p01 r1 hr1) ?_
          intro r18 u19
          refine lm_val 42 (by kernel_rfl) (fun w1 c1 => (op_extract (v := .agg _) rfl rfl)) ?_
          refine lm_val 43 (by kernel_rfl) (fun w1 c1 => (op_extract (v := .int .i64 _) rfl rfl)) ?_
          refine lm_storeA 2 [.int .i64 _, .int .i64 _, .int .i64 _, .int .i64 _, .slice _ _ _, .int .i64 _] [_, _, _, _, _, _] (H' := [_, _, blkE _ _ [_, _, _, _, _, _], _, _, _]) (by kernel_rfl) rfl rfl (by kernel_rfl) rfl rfl (by kernel_rfl) rfl rfl ?_
          refine lm_val 7 (by kernel_rfl) (fun w1 c1 => (op_assign (v := .int .i64 _) rfl)) ?_
          refine lm_nil ?_
          refine xm_next ?_
          refine cm_ret ?_
          exact xm_retCT rfl (by kernel_rfl) (show _ = Value.pointer (some ⟨_, 0, none⟩) from rfl) (by kernel_rfl) (fun w1 c1 => c1.cells 2 (ds := [.int .i64 _, .int .i64 _, .int .i64 _, .int .i64 _, .slice _ _ _, .int .i64 _]) rfl rfl) (by kernel_rfl) (show _ = Value.int .i64 _ from rfl) fun w1 c1 => ⟨(u19.1, u19.2.1, u19.2.2), rfl, hsub [0] (by kernel_rfl) rfl w1 c1⟩
end Go.Proofs.Ytljogldcejcikaa
