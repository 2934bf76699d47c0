/- Models of functions, and that the code follows them. Written by deco.py. -/
import Derived.Test.YtljogldcejcikaaGreatZCmp4
namespace Go.Proofs.YtljogldcejcikaaGreat
open Go.RowKit

structure ApiRuling where
 Credit : Int
 Err : Int
deriving DecidableEq, Inhabited
def encApiRuling (x : ApiRuling) : List Value := [.int .i64 x.Credit, .int .i64 x.Err]
def valApiRuling (x : ApiRuling) : Value := .agg #[.int .i64 x.Credit, .int .i64 x.Err]
theorem encApiRuling_len (x : ApiRuling) : (encApiRuling x).length = 2 := rfl
theorem encApiRuling_one (x : ApiRuling) : (encApiRuling x).all Value.oneCell' = true := rfl
/-- complaint.disputed -/
def m_complaint_disputed (_N : Nat) (p0 : ApiBill) (p1 : ApiComplaint) : Option (ApiItem × Bool) :=
 (if ((decide (p1.Item < 0)) || (decide ((List.length p0.Items : Int) ≤ p1.Item))) = true then
  some (((ApiItem.mk 0 0 0 0 0), false))
 else
  ck ((0 : Int) ≤ p1.Item ∧ p1.Item < (List.length p0.Items : Int)) (
   some (((ix p0.Items p1.Item), ((decide ((ix p0.Items p1.Item).Kind = 2)) || (decide ((ix p0.Items p1.Item).Kind = 3)))))))
set_option maxRecDepth 20000 in
theorem m_complaint_disputed_ok (N : Nat) (w0 : World) (p0 : ApiBill) (p1 : ApiComplaint) (A_p01 : Option Addr) (n_p01 c_p01 : Nat) (hr_p01 : RdE w0 5 encApiItem A_p01 p0.Items) (hz_p01 : SW A_p01 n_p01 c_p01 (List.length p0.Items)) (r : ApiItem × Bool) (hr : m_complaint_disputed N p0 p1 = some r) :
  Calls Tryz.prog 24 [.agg #[.int .i64 p0.ID, .int .i64 p0.Household, .int .i64 p0.When.From, .int .i64 p0.When.To, .slice A_p01 n_p01 c_p01, .int .i64 p0.Total], .agg #[.int .i64 p1.Bill, .int .i64 p1.Item, .int .i64 p1.At, .int .i64 p1.Kind]].toArray w0 fun x w1 => ∃ u, x = .returned ((fun (r : ApiItem × Bool) (_u : Unit) => .tuple #[.agg #[.int .i64 r.1.Kind, .int .i64 r.1.Ref, .int .i64 r.1.Count, .int .i64 r.1.Price, .int .i64 r.1.Amount], .bool r.2]) r u) ∧ Hs w0 ((fun (_r : ApiItem × Bool) (_u : Unit) => []) r u) w1 := by
 refine calls_cm (n := 34) (R := fun r x w1 => ∃ u, x = .returned ((fun (r : ApiItem × Bool) (_u : Unit) => .tuple #[.agg #[.int .i64 r.1.Kind, .int .i64 r.1.Ref, .int .i64 r.1.Count, .int .i64 r.1.Price, .int .i64 r.1.Amount], .bool r.2]) r u) ∧ Hs w0 ((fun (_r : ApiItem × Bool) (_u : Unit) => []) r u) w1) Tryz.func24 rfl rfl (Nat.le_of_ble_eq_true rfl) ?_ r hr
 unfold m_complaint_disputed
 refine cq ?_
 refine cr ?_
 refine lm_box 2 [.int .i64 _, .int .i64 _, .int .i64 _, .int .i64 _, .slice _ _ _, .int .i64 _] (by kernel_rfl) rfl ?_
 intro b5
 refine lm_box 3 [.int .i64 _, .int .i64 _, .int .i64 _, .int .i64 _] (by kernel_rfl) rfl ?_
 intro b6
 refine lm_alloc 4 [.int .i64 0, .int .i64 0, .int .i64 0, .int .i64 0, .int .i64 0] (v := .agg #[.int .i64 0, .int .i64 0, .int .i64 0, .int .i64 0, .int .i64 0]) (by kernel_rfl) (by kernel_rfl) rfl ?_
 intro b7
 refine lv 5 (by kernel_rfl) (fun w1 c1 => (oa (v := .bool false) rfl)) ?_
 refine ln ?_
 refine xn ?_
 refine cq ?_
 refine cq ?_
 refine cm_cutE [(17, .bool ((decide (p1.Item < 0)) || (decide ((List.length p0.Items : Int) ≤ p1.Item))))] ?_ ?_
 ·skip
  refine wv 7 (by kernel_rfl) (fun w1 c1 => (oF (m := 1) (k := 1) rfl (by kernel_rfl) rfl)) ?_
  refine wv 8 (by kernel_rfl) (fun w1 c1 => (ol rfl (by kernel_rfl) (c1.cell 1 (u := .int .i64 _) rfl rfl))) ?_
  refine wq_dec 9 (by kernel_rfl) (fun w1 c1 => (op_lss rfl rfl)) (fun h8 => ?_) (fun h8 => ?_)
  ·skip
   refine wv 10 (by kernel_rfl) (fun w1 c1 => (om (v := .bool true) rfl)) ?_
   refine wk 11 (by kernel_rfl) ?_
   refine wk 12 (by kernel_rfl) ?_
   refine wk 13 (by kernel_rfl) ?_
   refine wk 14 (by kernel_rfl) ?_
   refine wk 15 (by kernel_rfl) ?_
   refine wk 16 (by kernel_rfl) ?_
   refine wv 17 (by kernel_rfl) (fun w1 c1 => (opt (v := .bool true) rfl rfl)) ?_
   exact leaf_q (sub_out 11 _ rfl (by kernel_rfl) ⟨(congrArg Value.bool (by rw [decide_eq_true h8] <;> rfl)), trivial⟩)
  ·skip
   refine wv 10 (by kernel_rfl) (fun w1 c1 => (om (v := .bool false) rfl)) ?_
   refine wv 11 (by kernel_rfl) (fun w1 c1 => (oF (m := 1) (k := 1) rfl (by kernel_rfl) rfl)) ?_
   refine wv 12 (by kernel_rfl) (fun w1 c1 => (ol rfl (by kernel_rfl) (c1.cell 1 (u := .int .i64 _) rfl rfl))) ?_
   refine wv 13 (by kernel_rfl) (fun w1 c1 => (oF (m := 4) (k := 4) rfl (by kernel_rfl) rfl)) ?_
   refine wv 14 (by kernel_rfl) (fun w1 c1 => (ol rfl (by kernel_rfl) (c1.cell 2 (u := .slice _ _ _) rfl rfl))) ?_
   refine wv 15 (by kernel_rfl) (fun w1 c1 => (op_lenN rfl (by kernel_rfl) hz_p01.2.2)) ?_
   refine wv 16 (by kernel_rfl) (fun w1 c1 => (op_geq rfl rfl)) ?_
   refine wv 17 (by kernel_rfl) (fun w1 c1 => (opf (v := .bool _) rfl rfl)) ?_
   exact leaf_q (sub_out 11 _ rfl (by kernel_rfl) ⟨(congrArg Value.bool (by rw [decide_eq_false h8] <;> rfl)), trivial⟩)
 refine xn ?_
 refine cm_condB (by kernel_rfl) rfl (fun h9 => ?_) (fun h9 => ?_)
 ·skip
  refine cq ?_
  refine cr ?_
  refine lv 18 (by kernel_rfl) (fun w1 c1 => (op_build (z := [.int .i64 0, .int .i64 0, .int .i64 0, .int .i64 0, .int .i64 0]) (tab := [(0, 1), (1, 1), (2, 1), (3, 1), (4, 1)]) (cs := [.int .i64 _, .int .i64 _, .int .i64 _, .int .i64 _, .int .i64 _]) [] (by kernel_rfl) (by kernel_rfl) fillOk_nil rfl)) ?_
  refine lm_storeA 0 [.int .i64 _, .int .i64 _, .int .i64 _, .int .i64 _, .int .i64 _] [_, _, _, _, _] (H' := [blkE _ _ [_, _, _, _, _], _, _]) (by kernel_rfl) rfl rfl (by kernel_rfl) rfl rfl (by kernel_rfl) rfl rfl ?_
  refine lv 5 (by kernel_rfl) (fun w1 c1 => (oa (v := .bool false) rfl)) ?_
  refine ln ?_
  refine xn ?_
  refine cm_ret ?_
  refine xm_thenR ?_
  exact xm_retCT rfl (by kernel_rfl) (show _ = Value.pointer (some ⟨_, 0, none⟩) from rfl) (by kernel_rfl) (fun w1 c1 => c1.cells 0 (ds := [.int .i64 _, .int .i64 _, .int .i64 _, .int .i64 _, .int .i64 _]) rfl rfl) (by kernel_rfl) (show _ = Value.bool false from rfl) fun w1 c1 => ⟨(), rfl, hsub [] (by kernel_rfl) rfl w1 c1⟩
 ·skip
  refine cm_skip ?_
  refine xn ?_
  refine cq ?_
  refine cr ?_
  refine lv 19 (by kernel_rfl) (fun w1 c1 => (oF (m := 4) (k := 4) rfl (by kernel_rfl) rfl)) ?_
  refine lv 20 (by kernel_rfl) (fun w1 c1 => (ol rfl (by kernel_rfl) (c1.cell 2 (u := .slice _ _ _) rfl rfl))) ?_
  refine lv 21 (by kernel_rfl) (fun w1 c1 => (oF (m := 1) (k := 1) rfl (by kernel_rfl) rfl)) ?_
  refine lv 22 (by kernel_rfl) (fun w1 c1 => (ol rfl (by kernel_rfl) (c1.cell 1 (u := .int .i64 _) rfl rfl))) ?_
  refine lm_ck (fun h10 => ?_)
  refine lv 23 (by kernel_rfl) (fun w1 c1 => (op_indexA 5 rfl rfl (by kernel_rfl) ((hr_p01.old c1).addr h10.1 h10.2) hz_p01.2.2 h10.1 h10.2)) ?_
  refine lv 24 (by kernel_rfl) (fun w1 c1 => (op_loadR [.int .i64 ((ix p0.Items p1.Item).Kind), .int .i64 ((ix p0.Items p1.Item).Ref), .int .i64 ((ix p0.Items p1.Item).Count), .int .i64 ((ix p0.Items p1.Item).Price), .int .i64 ((ix p0.Items p1.Item).Amount)] rfl (by kernel_rfl) ((hr_p01.old c1).row h10.1 h10.2))) ?_
  refine lm_alloc 6 [.int .i64 0, .int .i64 0, .int .i64 0, .int .i64 0, .int .i64 0] (v := .agg #[.int .i64 0, .int .i64 0, .int .i64 0, .int .i64 0, .int .i64 0]) (by kernel_rfl) (by kernel_rfl) rfl ?_
  intro b11
  refine lm_storeA 0 [.int .i64 _, .int .i64 _, .int .i64 _, .int .i64 _, .int .i64 _] [_, _, _, _, _] (H' := [blkE _ _ [_, _, _, _, _], _, _, _]) (by kernel_rfl) rfl rfl (by kernel_rfl) rfl rfl (by kernel_rfl) rfl rfl ?_
  refine ln ?_
  refine xn ?_
  refine cq ?_
  refine cm_held (ξ := Unit) (fun u19 => [(4, .pointer (some ⟨b7, 0, none⟩)), (5, .bool ((decide ((ix p0.Items p1.Item).Kind = 2)) || (decide ((ix p0.Items p1.Item).Kind = 3))))]) (fun u19 => [blkE b7 66 [.int .i64 ((ix p0.Items p1.Item).Kind), .int .i64 ((ix p0.Items p1.Item).Ref), .int .i64 ((ix p0.Items p1.Item).Count), .int .i64 ((ix p0.Items p1.Item).Price), .int .i64 ((ix p0.Items p1.Item).Amount)]]) [blkE b11 66 [.int .i64 ((ix p0.Items p1.Item).Kind), .int .i64 ((ix p0.Items p1.Item).Ref), .int .i64 ((ix p0.Items p1.Item).Count), .int .i64 ((ix p0.Items p1.Item).Price), .int .i64 ((ix p0.Items p1.Item).Amount)], blkE b6 35 [.int .i64 p1.Bill, .int .i64 p1.Item, .int .i64 p1.At, .int .i64 p1.Kind], blkE b5 33 [.int .i64 p0.ID, .int .i64 p0.Household, .int .i64 p0.When.From, .int .i64 p0.When.To, .slice A_p01 n_p01 c_p01, .int .i64 p0.Total]] 11 (by kernel_rfl) (by rfl) (hsub [0, 2, 3] (by kernel_rfl) (by rfl)) ?_ ?_
  ·intro w21 c22
   refine wh_take 0 25 rfl (by kernel_rfl) (by kernel_rfl) (fun w2 c2 => (op_loadR [.int .i64 _, .int .i64 _, .int .i64 _, .int .i64 _, .int .i64 _] rfl (by kernel_rfl) (c2.cells 0 rfl rfl))) (hsub [0, 2, 3] (by kernel_rfl) rfl _ c22) ?_
   refine wh_take 1 26 rfl (by kernel_rfl) (by kernel_rfl) (fun w2 c2 => (oF (m := 0) (k := 0) rfl (by kernel_rfl) rfl)) (hsub [0, 2, 3] (by kernel_rfl) rfl _ c22) ?_
   refine wh_take 2 27 rfl (by kernel_rfl) (by kernel_rfl) (fun w2 c2 => (ol rfl (by kernel_rfl) (c2.cell 0 (u := .int .i64 _) rfl rfl))) (hsub [0, 2, 3] (by kernel_rfl) rfl _ c22) ?_
   refine wh_dec 3 28 rfl (by kernel_rfl) (by kernel_rfl) (fun w2 c2 => (op_eql rfl rfl)) (hsub [0, 2, 3] (by kernel_rfl) rfl _ c22) (fun h23 => ?_) (fun h23 => ?_)
   ·skip
    refine wh_take 4 29 rfl (by kernel_rfl) (by kernel_rfl) (fun w2 c2 => (om (v := .bool true) rfl)) (hsub [0, 2, 3] (by kernel_rfl) rfl _ c22) ?_
    refine wh_skip 5 30 rfl (by kernel_rfl) (by kernel_rfl) (hsub [0, 2, 3] (by kernel_rfl) rfl _ c22) ?_
    refine wh_skip 6 31 rfl (by kernel_rfl) (by kernel_rfl) (hsub [0, 2, 3] (by kernel_rfl) rfl _ c22) ?_
    refine wh_skip 7 32 rfl (by kernel_rfl) (by kernel_rfl) (hsub [0, 2, 3] (by kernel_rfl) rfl _ c22) ?_
    refine wh_take 8 33 rfl (by kernel_rfl) (by kernel_rfl) (fun w2 c2 => (opt (v := .bool true) rfl rfl)) (hsub [0, 2, 3] (by kernel_rfl) rfl _ c22) ?_
    refine wh_ready [9] (by kernel_rfl) rfl ⟨?_, trivial⟩
    refine ws_storeA 1 [.int .i64 _, .int .i64 _, .int .i64 _, .int .i64 _, .int .i64 _] [_, _, _, _, _] rfl (by kernel_rfl) rfl rfl (by kernel_rfl) rfl rfl (by kernel_rfl) rfl (H' := [_, blkE _ _ [_, _, _, _, _], _, _]) rfl c22 ?_
    intro w24 c25
    refine ⟨(hsub [0, 2, 3] (by kernel_rfl) rfl _ c25), ?_⟩
    refine wh_take 10 5 rfl (by kernel_rfl) (by kernel_rfl) (fun w2 c2 => (oa (v := .bool true) rfl)) (hsub [0, 2, 3] (by kernel_rfl) rfl _ c25) ?_
    exact wh_done () (by kernel_rfl) (sc (by kernel_rfl) rfl (sc (by kernel_rfl) (congrArg Value.bool (by rw [decide_eq_true h23] <;> rfl)) sub_nil)) (hsub [1] (by kernel_rfl) rfl _ c25)
   ·skip
    refine wh_take 4 29 rfl (by kernel_rfl) (by kernel_rfl) (fun w2 c2 => (om (v := .bool false) rfl)) (hsub [0, 2, 3] (by kernel_rfl) rfl _ c22) ?_
    refine wh_take 5 30 rfl (by kernel_rfl) (by kernel_rfl) (fun w2 c2 => (oF (m := 0) (k := 0) rfl (by kernel_rfl) rfl)) (hsub [0, 2, 3] (by kernel_rfl) rfl _ c22) ?_
    refine wh_take 6 31 rfl (by kernel_rfl) (by kernel_rfl) (fun w2 c2 => (ol rfl (by kernel_rfl) (c2.cell 0 (u := .int .i64 _) rfl rfl))) (hsub [0, 2, 3] (by kernel_rfl) rfl _ c22) ?_
    refine wh_take 7 32 rfl (by kernel_rfl) (by kernel_rfl) (fun w2 c2 => (op_eql rfl rfl)) (hsub [0, 2, 3] (by kernel_rfl) rfl _ c22) ?_
    refine wh_take 8 33 rfl (by kernel_rfl) (by kernel_rfl) (fun w2 c2 => (opf (v := .bool _) rfl rfl)) (hsub [0, 2, 3] (by kernel_rfl) rfl _ c22) ?_
    refine wh_ready [9] (by kernel_rfl) rfl ⟨?_, trivial⟩
    refine ws_storeA 1 [.int .i64 _, .int .i64 _, .int .i64 _, .int .i64 _, .int .i64 _] [_, _, _, _, _] rfl (by kernel_rfl) rfl rfl (by kernel_rfl) rfl rfl (by kernel_rfl) rfl (H' := [_, blkE _ _ [_, _, _, _, _], _, _]) rfl c22 ?_
    intro w26 c27
    refine ⟨(hsub [0, 2, 3] (by kernel_rfl) rfl _ c27), ?_⟩
    refine wh_take 10 5 rfl (by kernel_rfl) (by kernel_rfl) (fun w2 c2 => (oa (v := .bool _) rfl)) (hsub [0, 2, 3] (by kernel_rfl) rfl _ c27) ?_
    exact wh_done () (by kernel_rfl) (sc (by kernel_rfl) rfl (sc (by kernel_rfl) (congrArg Value.bool (by rw [decide_eq_false h23] <;> rfl)) sub_nil)) (hsub [1] (by kernel_rfl) rfl _ c27)
  intro u19
  refine xn ?_
  refine cm_ret ?_
  exact xm_retCT rfl (by kernel_rfl) (show _ = Value.pointer (some ⟨_, 0, none⟩) from rfl) (by kernel_rfl) (fun w1 c1 => c1.cells 0 (ds := [.int .i64 _, .int .i64 _, .int .i64 _, .int .i64 _, .int .i64 _]) rfl rfl) (by kernel_rfl) (show _ = Value.bool _ from rfl) fun w1 c1 => ⟨(), rfl, hsub [] (by kernel_rfl) rfl w1 c1⟩
/-- bill.money -/
def m_bill_money (_N : Nat) (p0 : Int) : Option (Bool) :=
 some (((decide (-1000000000000 ≤ p0)) && (decide (p0 ≤ 1000000000000))))
set_option maxRecDepth 20000 in
theorem m_bill_money_ok (N : Nat) (w0 : World) (p0 : Int)   (r : Bool) (hr : m_bill_money N p0 = some r) :
  Calls Tryz.prog 40 [.int .i64 p0].toArray w0 fun x w1 => ∃ u, x = .returned ((fun (r : Bool) (_u : Unit) => .bool r) r u) ∧ Hs w0 ((fun (_r : Bool) (_u : Unit) => []) r u) w1 := by
 refine calls_cm (n := 9) (R := fun r x w1 => ∃ u, x = .returned ((fun (r : Bool) (_u : Unit) => .bool r) r u) ∧ Hs w0 ((fun (_r : Bool) (_u : Unit) => []) r u) w1) Tryz.func40 rfl rfl (Nat.le_of_ble_eq_true rfl) ?_ r hr
 unfold m_bill_money
 refine cq ?_
 refine cr ?_
 refine lv 2 (by kernel_rfl) (fun w1 c1 => (oa (v := .bool false) rfl)) ?_
 refine ln ?_
 refine xn ?_
 refine cq ?_
 refine cm_cutE [(2, .bool ((decide (-1000000000000 ≤ p0)) && (decide (p0 ≤ 1000000000000))))] ?_ ?_
 ·skip
  refine wv 3 (by kernel_rfl) (fun w1 c1 => (om (v := .int .i64 _) rfl)) ?_
  refine wq_dec 4 (by kernel_rfl) (fun w1 c1 => (op_geq rfl rfl)) (fun h5 => ?_) (fun h5 => ?_)
  ·skip
   refine wv 5 (by kernel_rfl) (fun w1 c1 => (om (v := .bool true) rfl)) ?_
   refine wv 6 (by kernel_rfl) (fun w1 c1 => (om (v := .int .i64 _) rfl)) ?_
   refine wv 7 (by kernel_rfl) (fun w1 c1 => (op_leq rfl rfl)) ?_
   refine wv 8 (by kernel_rfl) (fun w1 c1 => (opt (v := .bool _) rfl rfl)) ?_
   refine wv 2 (by kernel_rfl) (fun w1 c1 => (oa (v := .bool _) rfl)) ?_
   exact leaf_q (sub_out 7 _ rfl (by kernel_rfl) ⟨(congrArg Value.bool (by rw [decide_eq_true h5] <;> rfl)), trivial⟩)
  ·skip
   refine wv 5 (by kernel_rfl) (fun w1 c1 => (om (v := .bool false) rfl)) ?_
   refine wk 6 (by kernel_rfl) ?_
   refine wk 7 (by kernel_rfl) ?_
   refine wv 8 (by kernel_rfl) (fun w1 c1 => (opf (v := .bool false) rfl rfl)) ?_
   refine wv 2 (by kernel_rfl) (fun w1 c1 => (oa (v := .bool false) rfl)) ?_
   exact leaf_q (sub_out 7 _ rfl (by kernel_rfl) ⟨(congrArg Value.bool (by rw [decide_eq_false h5] <;> rfl)), trivial⟩)
 refine xn ?_
 refine cm_ret ?_
 exact xm_retT rfl (by kernel_rfl) (show _ = Value.bool _ from rfl) fun w1 c1 => ⟨(), rfl, hsub [] (by kernel_rfl) rfl w1 c1⟩
/-- bill.Credit$1 -/
def m_bill_Credit_1 (N : Nat) (p0 : ApiItem) : Option (Bool) :=
 Option.bind (m_bill_money N p0.Amount) fun r6 => some ((!r6))
set_option maxRecDepth 20000 in
theorem m_bill_Credit_1_ok (N : Nat) (w0 : World) (p0 : ApiItem)   (r : Bool) (hr : m_bill_Credit_1 N p0 = some r) :
  Calls Tryz.prog 42 [.agg #[.int .i64 p0.Kind, .int .i64 p0.Ref, .int .i64 p0.Count, .int .i64 p0.Price, .int .i64 p0.Amount]].toArray w0 fun x w1 => ∃ u, x = .returned ((fun (r : Bool) (_u : Unit) => .bool r) r u) ∧ Hs w0 ((fun (_r : Bool) (_u : Unit) => []) r u) w1 := by
 refine calls_cm (n := 7) (R := fun r x w1 => ∃ u, x = .returned ((fun (r : Bool) (_u : Unit) => .bool r) r u) ∧ Hs w0 ((fun (_r : Bool) (_u : Unit) => []) r u) w1) Tryz.func42 rfl rfl (Nat.le_of_ble_eq_true rfl) ?_ r hr
 unfold m_bill_Credit_1
 refine cq ?_
 refine cr ?_
 refine lm_box 1 [.int .i64 _, .int .i64 _, .int .i64 _, .int .i64 _, .int .i64 _] (by kernel_rfl) rfl ?_
 intro b5
 refine lv 2 (by kernel_rfl) (fun w1 c1 => (oa (v := .bool false) rfl)) ?_
 refine ln ?_
 refine xn ?_
 refine cq ?_
 refine cr ?_
 refine lv 3 (by kernel_rfl) (fun w1 c1 => (oF (m := 4) (k := 4) rfl (by kernel_rfl) rfl)) ?_
 refine lv 4 (by kernel_rfl) (fun w1 c1 => (ol rfl (by kernel_rfl) (c1.cell 0 (u := .int .i64 _) rfl rfl))) ?_
 refine lm_call 5 (V := (fun (r : Bool) (_u : Unit) => .bool r)) (HR := (fun (_r : Bool) (_u : Unit) => [])) (by kernel_rfl) (fun w1 => op_call (by kernel_rfl)) (fun r1 hr1 w1 c1 => m_bill_money_ok N w1 p0.Amount  r1 hr1) ?_
 intro r6 u7
 refine lv 6 (by kernel_rfl) (fun w1 c1 => (op_not rfl)) ?_
 refine lv 2 (by kernel_rfl) (fun w1 c1 => (oa (v := .bool _) rfl)) ?_
 refine ln ?_
 refine xn ?_
 refine cm_ret ?_
 exact xm_retT rfl (by kernel_rfl) (show _ = Value.bool _ from rfl) fun w1 c1 => ⟨(), rfl, hsub [] (by kernel_rfl) rfl w1 c1⟩
/-- slices.IndexFunc -/
def m_slices_IndexFunc_bill_Credit_1 (N : Nat) (p0 : (List ApiItem)) : Option (Int) :=
 (andThen
  (loopM (fun (s47 : Int) =>
   (if s47 < (List.length p0 : Int) then
    ck ((0 : Int) ≤ s47 ∧ s47 < (List.length p0 : Int)) (
     Option.bind (m_bill_Credit_1 N (ix p0 s47)) fun r51 => (if r51 = true then
      some (.done (.done (s47)))
     else
      ck (I64 (s47 + (1 : Int))) (
       some (.next (s47 + (1 : Int))))))
   else
    some (.done (.next ())))) N (0 : Int))
 fun (_s29 : Unit) =>
  some ((-1 : Int)))
set_option maxRecDepth 20000 in
theorem m_slices_IndexFunc_bill_Credit_1_ok (N : Nat) (w0 : World) (p0 : (List ApiItem)) (A_p0 : Option Addr) (n_p0 c_p0 : Nat) (hr_p0 : RdE w0 5 encApiItem A_p0 p0) (hz_p0 : SW A_p0 n_p0 c_p0 (List.length p0)) (r : Int) (hr : m_slices_IndexFunc_bill_Credit_1 N p0 = some r) :
  Calls Tryz.prog 62 [.slice A_p0 n_p0 c_p0, .func (.func 42) #[] #[]].toArray w0 fun x w1 => ∃ u, x = .returned ((fun (r : Int) (_u : Unit) => .int .i64 r) r u) ∧ Hs w0 ((fun (_r : Int) (_u : Unit) => []) r u) w1 := by
 refine calls_cm (n := 19) (R := fun r x w1 => ∃ u, x = .returned ((fun (r : Int) (_u : Unit) => .int .i64 r) r u) ∧ Hs w0 ((fun (_r : Int) (_u : Unit) => []) r u) w1) Tryz.func62 rfl rfl (Nat.le_of_ble_eq_true rfl) ?_ r hr
 unfold m_slices_IndexFunc_bill_Credit_1
 refine cq ?_
 refine cr ?_
 refine lv 4 (by kernel_rfl) (fun w1 c1 => (oa (v := .int .i64 _) rfl)) ?_
 refine ln ?_
 refine xn ?_
 refine cm_join (σ := Unit) (ξ := Unit) (fun s29 u30 => []) (fun s29 u30 => []) ?_ ?_
 ·skip
  refine cq ?_
  refine cr ?_
  refine lv 6 (by kernel_rfl) (fun w1 c1 => (om (v := .slice _ _ _) rfl)) ?_
  refine lv 7 (by kernel_rfl) (fun w1 c1 => (op_lenN rfl (by kernel_rfl) hz_p0.2.2)) ?_
  refine lv 8 (by kernel_rfl) (fun w1 c1 => (om (v := .int .i64 _) rfl)) ?_
  refine ln ?_
  refine xn ?_
  refine cm_block ?_
  refine cm_loop (σ := Int) (ξ := Unit) (fun s47 u48 => [(0, .slice A_p0 n_p0 c_p0), (1, .func (.func 42) #[] #[]), (7, .int .i64 (List.length p0 : Int)), (8, .int .i64 s47)]) (fun s47 u48 => []) () ?_ ?_ ?_
  ·exact (sc (by kernel_rfl) rfl (sc (by kernel_rfl) rfl (sc (by kernel_rfl) rfl (sc (by kernel_rfl) rfl sub_nil))))
  ·exact hsub [] (by kernel_rfl) rfl
  intro s47 u48
  refine cq ?_
  refine cr ?_
  refine lv 9 (by kernel_rfl) (fun w1 c1 => (op_lss rfl rfl)) ?_
  refine ln ?_
  refine xn ?_
  refine cq ?_
  refine cm_cond (by kernel_rfl) rfl (fun h49 => ?_) (fun h49 => ?_)
  ·skip
   refine cm_skip ?_
   refine xn ?_
   refine cq ?_
   refine cm_block ?_
   refine cq ?_
   refine cr ?_
   refine lv 10 (by kernel_rfl) (fun w1 c1 => (om (v := .int .i64 _) rfl)) ?_
   refine lv 5 (by kernel_rfl) (fun w1 c1 => (oa (v := .int .i64 _) rfl)) ?_
   refine ln ?_
   refine xn ?_
   refine cq ?_
   refine cr ?_
   refine lv 11 (by kernel_rfl) (fun w1 c1 => (om (v := .func _ _ _) rfl)) ?_
   refine lv 12 (by kernel_rfl) (fun w1 c1 => (om (v := .slice _ _ _) rfl)) ?_
   refine lv 13 (by kernel_rfl) (fun w1 c1 => (om (v := .int .i64 _) rfl)) ?_
   refine lm_ck (fun h50 => ?_)
   refine lv 14 (by kernel_rfl) (fun w1 c1 => (op_indexA 5 rfl rfl (by kernel_rfl) ((hr_p0.old c1).addr h50.1 h50.2) hz_p0.2.2 h50.1 h50.2)) ?_
   refine lv 15 (by kernel_rfl) (fun w1 c1 => (op_loadR [.int .i64 ((ix p0 s47).Kind), .int .i64 ((ix p0 s47).Ref), .int .i64 ((ix p0 s47).Count), .int .i64 ((ix p0 s47).Price), .int .i64 ((ix p0 s47).Amount)] rfl (by kernel_rfl) ((hr_p0.old c1).row h50.1 h50.2))) ?_
   refine lm_call 16 (V := (fun (r : Bool) (_u : Unit) => .bool r)) (HR := (fun (_r : Bool) (_u : Unit) => [])) (by kernel_rfl) (fun w1 => op_callv rfl (by kernel_rfl)) (fun r1 hr1 w1 c1 => m_bill_Credit_1_ok N w1 (ix p0 s47)  r1 hr1) ?_
   intro r51 u52
   refine ln ?_
   refine xn ?_
   refine cm_condB (by kernel_rfl) rfl (fun h53 => ?_) (fun h53 => ?_)
   ·skip
    refine cq ?_
    refine cr ?_
    refine lv 17 (by kernel_rfl) (fun w1 c1 => (om (v := .int .i64 _) rfl)) ?_
    refine lv 4 (by kernel_rfl) (fun w1 c1 => (oa (v := .int .i64 _) rfl)) ?_
    refine ln ?_
    refine xn ?_
    refine cm_ret ?_
    refine xm_inR ?_
    refine xm_thenR ?_
    refine xm_lret ?_
    refine xm_inR ?_
    refine xm_lret ?_
    exact xm_retT rfl (by kernel_rfl) (show _ = Value.int .i64 _ from rfl) fun w1 c1 => ⟨(), rfl, hsub [] (by kernel_rfl) rfl w1 c1⟩
   ·skip
    refine cm_skip ?_
    refine xm_inN ?_
    refine xn ?_
    refine cr ?_
    refine lm_ck (fun h54 => ?_)
    refine lv 18 (by kernel_rfl) (fun w1 c1 => (op_add rfl rfl h54)) ?_
    refine lv 8 (by kernel_rfl) (fun w1 c1 => (om (v := .int .i64 _) rfl)) ?_
    refine ln ?_
    exact xm_lnext () (sc (by kernel_rfl) rfl (sc (by kernel_rfl) rfl (sc (by kernel_rfl) rfl (sc (by kernel_rfl) rfl sub_nil)))) (hsub [] (by kernel_rfl) rfl)
  ·skip
   refine cm_exit ?_
   refine xm_thenE ?_
   refine xm_lexit ?_
   refine xm_here ?_
   exact xm_lnext () sub_nil (hsub [] (by kernel_rfl) rfl)
 intro s29 u30
 refine cq ?_
 refine cr ?_
 refine lv 4 (by kernel_rfl) (fun w1 c1 => (oa (v := .int .i64 _) rfl)) ?_
 refine ln ?_
 refine xn ?_
 refine cm_ret ?_
 exact xm_retT rfl (by kernel_rfl) (show _ = Value.int .i64 _ from rfl) fun w1 c1 => ⟨(), rfl, hsub [] (by kernel_rfl) rfl w1 c1⟩
/-- slices.ContainsFunc -/
def m_slices_ContainsFunc_bill_Credit_1 (N : Nat) (p0 : (List ApiItem)) : Option (Bool) :=
 Option.bind (m_slices_IndexFunc_bill_Credit_1 N p0) fun r5 => some ((decide (0 ≤ r5)))
set_option maxRecDepth 20000 in
theorem m_slices_ContainsFunc_bill_Credit_1_ok (N : Nat) (w0 : World) (p0 : (List ApiItem)) (A_p0 : Option Addr) (n_p0 c_p0 : Nat) (hr_p0 : RdE w0 5 encApiItem A_p0 p0) (hz_p0 : SW A_p0 n_p0 c_p0 (List.length p0)) (r : Bool) (hr : m_slices_ContainsFunc_bill_Credit_1 N p0 = some r) :
  Calls Tryz.prog 41 [.slice A_p0 n_p0 c_p0, .func (.func 42) #[] #[]].toArray w0 fun x w1 => ∃ u, x = .returned ((fun (r : Bool) (_u : Unit) => .bool r) r u) ∧ Hs w0 ((fun (_r : Bool) (_u : Unit) => []) r u) w1 := by
 refine calls_cm (n := 9) (R := fun r x w1 => ∃ u, x = .returned ((fun (r : Bool) (_u : Unit) => .bool r) r u) ∧ Hs w0 ((fun (_r : Bool) (_u : Unit) => []) r u) w1) Tryz.func41 rfl rfl (Nat.le_of_ble_eq_true rfl) ?_ r hr
 unfold m_slices_ContainsFunc_bill_Credit_1
 refine cq ?_
 refine cr ?_
 refine lv 4 (by kernel_rfl) (fun w1 c1 => (oa (v := .bool false) rfl)) ?_
 refine ln ?_
 refine xn ?_
 refine cq ?_
 refine cr ?_
 refine lv 5 (by kernel_rfl) (fun w1 c1 => (om (v := .slice _ _ _) rfl)) ?_
 refine lv 6 (by kernel_rfl) (fun w1 c1 => (om (v := .func _ _ _) rfl)) ?_
 refine lm_call 7 (V := (fun (r : Int) (_u : Unit) => .int .i64 r)) (HR := (fun (_r : Int) (_u : Unit) => [])) (by kernel_rfl) (fun w1 => op_call (by kernel_rfl)) (fun r1 hr1 w1 c1 => m_slices_IndexFunc_bill_Credit_1_ok N w1 p0 A_p0 n_p0 c_p0 (hr_p0.old c1) hz_p0 r1 hr1) ?_
 intro r5 u6
 refine lv 8 (by kernel_rfl) (fun w1 c1 => (op_geq rfl rfl)) ?_
 refine lv 4 (by kernel_rfl) (fun w1 c1 => (oa (v := .bool _) rfl)) ?_
 refine ln ?_
 refine xn ?_
 refine cm_ret ?_
 exact xm_retT rfl (by kernel_rfl) (show _ = Value.bool _ from rfl) fun w1 c1 => ⟨(), rfl, hsub [] (by kernel_rfl) rfl w1 c1⟩
/-- bill.account -/
def m_bill_account (N : Nat) (p0 : (List ApiItem)) (p1 : Int) : Option (Int × Int × Bool) :=
 (andThen
  (loopM (fun (s177 : Int × Int × Bool × Int) =>
   (if s177.2.2.2 < (List.length p0 : Int) then
    (andThen
     (ck ((0 : Int) ≤ s177.2.2.2 ∧ s177.2.2.2 < (List.length p0 : Int)) (
      (if (ix p0 s177.2.2.2).Ref ≠ p1 then
       some (.next (s177.1, s177.2.1, s177.2.2.1))
      else
       (andThen
        (if (ix p0 s177.2.2.2).Kind = 2 then
         some (.next true)
        else
         (if (ix p0 s177.2.2.2).Kind = 3 then
          some (.next s177.2.2.1)
         else
          (if (ix p0 s177.2.2.2).Kind = 4 then
           (Option.map Step.done
            (ck (I64 (s177.2.1 - ((ix p0 s177.2.2.2).Amount))) (
             some (.next (s177.1, (s177.2.1 - ((ix p0 s177.2.2.2).Amount)), s177.2.2.1)))))
          else
           some (.done (.next (s177.1, s177.2.1, s177.2.2.1))))))
       fun (s203 : Bool) =>
        ck (I64 (s177.1 + ((ix p0 s177.2.2.2).Amount))) (
         some (.next ((s177.1 + ((ix p0 s177.2.2.2).Amount)), s177.2.1, s203)))))))
    fun (s194 : Int × Int × Bool) =>
     ck (I64 (s177.2.2.2 + (1 : Int))) (
      some (.next (s194.1, s194.2.1, s194.2.2, (s177.2.2.2 + (1 : Int))))))
   else
    some (.done (.next (s177.1, s177.2.1, s177.2.2.1))))) N ((0 : Int), (0 : Int), false, (0 : Int)))
 fun (s107 : Int × Int × Bool) =>
  some ((s107.1, s107.2.1, s107.2.2)))
set_option maxHeartbeats 2000000 in
set_option maxRecDepth 20000 in
theorem m_bill_account_ok (N : Nat) (w0 : World) (p0 : (List ApiItem)) (p1 : Int) (A_p0 : Option Addr) (n_p0 c_p0 : Nat) (hr_p0 : RdE w0 5 encApiItem A_p0 p0) (hz_p0 : SW A_p0 n_p0 c_p0 (List.length p0)) (r : Int × Int × Bool) (hr : m_bill_account N p0 p1 = some r) :
  Calls Tryz.prog 43 [.slice A_p0 n_p0 c_p0, .int .i64 p1].toArray w0 fun x w1 => ∃ u, x = .returned ((fun (r : Int × Int × Bool) (_u : Unit) => .tuple #[.int .i64 r.1, .int .i64 r.2.1, .bool r.2.2]) r u) ∧ Hs w0 ((fun (_r : Int × Int × Bool) (_u : Unit) => []) r u) w1 := by
 refine calls_cm (n := 39) (R := fun r x w1 => ∃ u, x = .returned ((fun (r : Int × Int × Bool) (_u : Unit) => .tuple #[.int .i64 r.1, .int .i64 r.2.1, .bool r.2.2]) r u) ∧ Hs w0 ((fun (_r : Int × Int × Bool) (_u : Unit) => []) r u) w1) Tryz.func43 rfl rfl (Nat.le_of_ble_eq_true rfl) ?_ r hr
 unfold m_bill_account
 refine cq ?_
 refine cr ?_
 refine lv 4 (by kernel_rfl) (fun w1 c1 => (oa (v := .int .i64 _) rfl)) ?_
 refine lv 5 (by kernel_rfl) (fun w1 c1 => (oa (v := .int .i64 _) rfl)) ?_
 refine lv 6 (by kernel_rfl) (fun w1 c1 => (oa (v := .bool false) rfl)) ?_
 refine ln ?_
 refine xn ?_
 refine cm_join (σ := Int × Int × Bool) (ξ := Unit) (fun s107 u108 => [(4, .int .i64 s107.1), (5, .int .i64 s107.2.1), (6, .bool s107.2.2)]) (fun s107 u108 => []) ?_ ?_
 ·skip
  refine cq ?_
  refine cr ?_
  refine lv 9 (by kernel_rfl) (fun w1 c1 => (om (v := .slice _ _ _) rfl)) ?_
  refine lv 10 (by kernel_rfl) (fun w1 c1 => (op_lenN rfl (by kernel_rfl) hz_p0.2.2)) ?_
  refine lv 11 (by kernel_rfl) (fun w1 c1 => (om (v := .int .i64 _) rfl)) ?_
  refine ln ?_
  refine xn ?_
  refine cm_block ?_
  refine cm_loop (σ := Int × Int × Bool × Int) (ξ := Unit) (fun s177 u178 => [(1, .int .i64 p1), (4, .int .i64 s177.1), (5, .int .i64 s177.2.1), (6, .bool s177.2.2.1), (9, .slice A_p0 n_p0 c_p0), (10, .int .i64 (List.length p0 : Int)), (11, .int .i64 s177.2.2.2)]) (fun s177 u178 => []) () ?_ ?_ ?_
  ·exact (sc (by kernel_rfl) rfl (sc (by kernel_rfl) rfl (sc (by kernel_rfl) rfl (sc (by kernel_rfl) rfl (sc (by kernel_rfl) rfl (sc (by kernel_rfl) rfl (sc (by kernel_rfl) rfl sub_nil)))))))
  ·exact hsub [] (by kernel_rfl) rfl
  intro s177 u178
  refine cq ?_
  refine cr ?_
  refine lv 12 (by kernel_rfl) (fun w1 c1 => (op_lss rfl rfl)) ?_
  refine ln ?_
  refine xn ?_
  refine cq ?_
  refine cm_cond (by kernel_rfl) rfl (fun h179 => ?_) (fun h179 => ?_)
  ·skip
   refine cm_skip ?_
   refine xn ?_
   refine cm_join (σ := Int × Int × Bool) (ξ := Unit) (fun s194 u195 => [(1, .int .i64 p1), (4, .int .i64 s194.1), (5, .int .i64 s194.2.1), (6, .bool s194.2.2), (9, .slice A_p0 n_p0 c_p0), (10, .int .i64 (List.length p0 : Int)), (11, .int .i64 s177.2.2.2)]) (fun s194 u195 => []) ?_ ?_
   ·skip
    refine cm_block ?_
    refine cq ?_
    refine cr ?_
    refine lm_ck (fun h196 => ?_)
    refine lv 13 (by kernel_rfl) (fun w1 c1 => (op_indexA 5 rfl rfl (by kernel_rfl) ((hr_p0.old c1).addr h196.1 h196.2) hz_p0.2.2 h196.1 h196.2)) ?_
    refine lv 14 (by kernel_rfl) (fun w1 c1 => (op_loadR [.int .i64 ((ix p0 s177.2.2.2).Kind), .int .i64 ((ix p0 s177.2.2.2).Ref), .int .i64 ((ix p0 s177.2.2.2).Count), .int .i64 ((ix p0 s177.2.2.2).Price), .int .i64 ((ix p0 s177.2.2.2).Amount)] rfl (by kernel_rfl) ((hr_p0.old c1).row h196.1 h196.2))) ?_
    refine lm_alloc 8 [.int .i64 0, .int .i64 0, .int .i64 0, .int .i64 0, .int .i64 0] (v := .agg #[.int .i64 0, .int .i64 0, .int .i64 0, .int .i64 0, .int .i64 0]) (by kernel_rfl) (by kernel_rfl) rfl ?_
    intro b197
    refine lm_storeA 0 [.int .i64 _, .int .i64 _, .int .i64 _, .int .i64 _, .int .i64 _] [_, _, _, _, _] (H' := [blkE _ _ [_, _, _, _, _]]) (by kernel_rfl) rfl rfl (by kernel_rfl) rfl rfl (by kernel_rfl) rfl rfl ?_
    refine ln ?_
    refine xn ?_
    refine cq ?_
    refine cq ?_
    refine cr ?_
    refine lv 15 (by kernel_rfl) (fun w1 c1 => (oF (m := 1) (k := 1) rfl (by kernel_rfl) rfl)) ?_
    refine lv 16 (by kernel_rfl) (fun w1 c1 => (ol rfl (by kernel_rfl) (c1.cell 0 (u := .int .i64 _) rfl rfl))) ?_
    refine lv 17 (by kernel_rfl) (fun w1 c1 => (om (v := .int .i64 _) rfl)) ?_
    refine lv 18 (by kernel_rfl) (fun w1 c1 => (op_neq rfl rfl)) ?_
    refine ln ?_
    refine xn ?_
    refine cm_cond (by kernel_rfl) rfl (fun h198 => ?_) (fun h198 => ?_)
    ·skip
     refine cm_exit ?_
     refine xm_thenE ?_
     refine xm_here ?_
     exact xm_lnext () (sc (by kernel_rfl) rfl (sc (by kernel_rfl) rfl (sc (by kernel_rfl) rfl (sc (by kernel_rfl) rfl (sc (by kernel_rfl) rfl (sc (by kernel_rfl) rfl (sc (by kernel_rfl) rfl sub_nil))))))) (hsub [] (by kernel_rfl) rfl)
    ·skip
     refine cm_skip ?_
     refine xn ?_
     refine cq ?_
     refine cr ?_
     refine lv 19 (by kernel_rfl) (fun w1 c1 => (oF (m := 0) (k := 0) rfl (by kernel_rfl) rfl)) ?_
     refine lv 20 (by kernel_rfl) (fun w1 c1 => (ol rfl (by kernel_rfl) (c1.cell 0 (u := .int .i64 _) rfl rfl))) ?_
     refine ln ?_
     refine xn ?_
     refine cm_block ?_
     refine cq ?_
     refine cm_block ?_
     refine cm_join (σ := Bool) (ξ := Unit) (fun s203 u204 => [(1, .int .i64 p1), (4, .int .i64 s177.1), (5, .int .i64 s177.2.1), (6, .bool s203), (8, .pointer (some ⟨b197, 0, none⟩)), (9, .slice A_p0 n_p0 c_p0), (10, .int .i64 (List.length p0 : Int)), (11, .int .i64 s177.2.2.2)]) (fun s203 u204 => [blkE b197 66 [.int .i64 ((ix p0 s177.2.2.2).Kind), .int .i64 ((ix p0 s177.2.2.2).Ref), .int .i64 ((ix p0 s177.2.2.2).Count), .int .i64 ((ix p0 s177.2.2.2).Price), .int .i64 ((ix p0 s177.2.2.2).Amount)]]) ?_ ?_
     ·skip
      refine cm_block ?_
      refine cq ?_
      refine cm_block ?_
      refine cq ?_
      refine cq ?_
      refine cq ?_
      refine cr ?_
      refine lv 22 (by kernel_rfl) (fun w1 c1 => (op_eql rfl rfl)) ?_
      refine lv 21 (by kernel_rfl) (fun w1 c1 => (oa (v := .bool _) rfl)) ?_
      refine ln ?_
      refine xn ?_
      refine cm_cond (by kernel_rfl) rfl (fun h205 => ?_) (fun h205 => ?_)
      ·skip
       refine cm_exit ?_
       refine xm_thenE ?_
       refine xm_thenE ?_
       refine xm_here ?_
       refine xn ?_
       refine cr ?_
       refine lv 6 (by kernel_rfl) (fun w1 c1 => (oa (v := .bool true) rfl)) ?_
       refine ln ?_
       refine xm_inN ?_
       exact xm_lnext () (sc (by kernel_rfl) rfl (sc (by kernel_rfl) rfl (sc (by kernel_rfl) rfl (sc (by kernel_rfl) rfl (sc (by kernel_rfl) rfl (sc (by kernel_rfl) rfl (sc (by kernel_rfl) rfl (sc (by kernel_rfl) rfl sub_nil)))))))) (hsub [0] (by kernel_rfl) rfl)
      ·skip
       refine cm_skip ?_
       refine xn ?_
       refine cq ?_
       refine cq ?_
       refine cr ?_
       refine lv 24 (by kernel_rfl) (fun w1 c1 => (op_eql rfl rfl)) ?_
       refine lv 23 (by kernel_rfl) (fun w1 c1 => (oa (v := .bool _) rfl)) ?_
       refine ln ?_
       refine xn ?_
       refine cm_cond (by kernel_rfl) rfl (fun h206 => ?_) (fun h206 => ?_)
       ·skip
        refine cm_exit ?_
        refine xm_thenE ?_
        refine xm_thenE ?_
        refine xm_pass (by kernel_rfl) ?_
        refine xm_thenE ?_
        refine xm_here ?_
        exact xm_lnext () (sc (by kernel_rfl) rfl (sc (by kernel_rfl) rfl (sc (by kernel_rfl) rfl (sc (by kernel_rfl) rfl (sc (by kernel_rfl) rfl (sc (by kernel_rfl) rfl (sc (by kernel_rfl) rfl (sc (by kernel_rfl) rfl sub_nil)))))))) (hsub [0] (by kernel_rfl) rfl)
       ·skip
        refine cm_skip ?_
        refine xn ?_
        refine cq ?_
        refine cr ?_
        refine lv 26 (by kernel_rfl) (fun w1 c1 => (op_eql rfl rfl)) ?_
        refine lv 25 (by kernel_rfl) (fun w1 c1 => (oa (v := .bool _) rfl)) ?_
        refine ln ?_
        refine xn ?_
        refine cm_cond (by kernel_rfl) rfl (fun h207 => ?_) (fun h207 => ?_)
        ·skip
         refine cm_exit ?_
         refine xm_thenE ?_
         refine xm_pass (by kernel_rfl) ?_
         refine xm_thenE ?_
         refine xm_pass (by kernel_rfl) ?_
         refine xm_lexitM ?_
         refine xm_here ?_
         refine xn ?_
         refine cq ?_
         refine cr ?_
         refine lv 31 (by kernel_rfl) (fun w1 c1 => (om (v := .int .i64 _) rfl)) ?_
         refine lv 32 (by kernel_rfl) (fun w1 c1 => (oF (m := 4) (k := 4) rfl (by kernel_rfl) rfl)) ?_
         refine lv 33 (by kernel_rfl) (fun w1 c1 => (ol rfl (by kernel_rfl) (c1.cell 0 (u := .int .i64 _) rfl rfl))) ?_
         refine lm_ck (fun h208 => ?_)
         refine lv 34 (by kernel_rfl) (fun w1 c1 => (op_sub rfl rfl h208)) ?_
         refine lv 5 (by kernel_rfl) (fun w1 c1 => (oa (v := .int .i64 _) rfl)) ?_
         refine ln ?_
         refine xn ?_
         refine cm_exit ?_
         refine xm_here ?_
         refine xm_inN ?_
         exact xm_lnext () (sc (by kernel_rfl) rfl (sc (by kernel_rfl) rfl (sc (by kernel_rfl) rfl (sc (by kernel_rfl) rfl (sc (by kernel_rfl) rfl (sc (by kernel_rfl) rfl (sc (by kernel_rfl) rfl sub_nil))))))) (hsub [] (by kernel_rfl) rfl)
        ·skip
         refine cm_skip ?_
         refine xn ?_
         refine cm_exit ?_
         refine xm_pass (by kernel_rfl) ?_
         refine xm_thenE ?_
         refine xm_pass (by kernel_rfl) ?_
         refine xm_lexit ?_
         refine xm_pass (by kernel_rfl) ?_
         refine xm_thenE ?_
         refine xm_here ?_
         refine xm_inN ?_
         exact xm_lnext () (sc (by kernel_rfl) rfl (sc (by kernel_rfl) rfl (sc (by kernel_rfl) rfl (sc (by kernel_rfl) rfl (sc (by kernel_rfl) rfl (sc (by kernel_rfl) rfl (sc (by kernel_rfl) rfl sub_nil))))))) (hsub [] (by kernel_rfl) rfl)
     intro s203 u204
     refine cq ?_
     refine cr ?_
     refine lv 27 (by kernel_rfl) (fun w1 c1 => (om (v := .int .i64 _) rfl)) ?_
     refine lv 28 (by kernel_rfl) (fun w1 c1 => (oF (m := 4) (k := 4) rfl (by kernel_rfl) rfl)) ?_
     refine lv 29 (by kernel_rfl) (fun w1 c1 => (ol rfl (by kernel_rfl) (c1.cell 0 (u := .int .i64 _) rfl rfl))) ?_
     refine lm_ck (fun h209 => ?_)
     refine lv 30 (by kernel_rfl) (fun w1 c1 => (op_add rfl rfl h209)) ?_
     refine lv 4 (by kernel_rfl) (fun w1 c1 => (oa (v := .int .i64 _) rfl)) ?_
     refine ln ?_
     refine xn ?_
     refine cm_exit ?_
     refine xm_pass (by kernel_rfl) ?_
     refine xm_thenE ?_
     refine xm_here ?_
     refine xm_inN ?_
     exact xm_lnext () (sc (by kernel_rfl) rfl (sc (by kernel_rfl) rfl (sc (by kernel_rfl) rfl (sc (by kernel_rfl) rfl (sc (by kernel_rfl) rfl (sc (by kernel_rfl) rfl (sc (by kernel_rfl) rfl sub_nil))))))) (hsub [] (by kernel_rfl) rfl)
   intro s194 u195
   refine cr ?_
   refine lm_ck (fun h210 => ?_)
   refine lv 35 (by kernel_rfl) (fun w1 c1 => (op_add rfl rfl h210)) ?_
   refine lv 11 (by kernel_rfl) (fun w1 c1 => (om (v := .int .i64 _) rfl)) ?_
   refine ln ?_
   exact xm_lnext () (sc (by kernel_rfl) rfl (sc (by kernel_rfl) rfl (sc (by kernel_rfl) rfl (sc (by kernel_rfl) rfl (sc (by kernel_rfl) rfl (sc (by kernel_rfl) rfl (sc (by kernel_rfl) rfl sub_nil))))))) (hsub [] (by kernel_rfl) rfl)
  ·skip
   refine cm_exit ?_
   refine xm_thenE ?_
   refine xm_lexit ?_
   refine xm_here ?_
   exact xm_lnext () (sc (by kernel_rfl) rfl (sc (by kernel_rfl) rfl (sc (by kernel_rfl) rfl sub_nil))) (hsub [] (by kernel_rfl) rfl)
 intro s107 u108
 refine cq ?_
 refine cr ?_
 refine lv 36 (by kernel_rfl) (fun w1 c1 => (om (v := .int .i64 _) rfl)) ?_
 refine lv 37 (by kernel_rfl) (fun w1 c1 => (om (v := .int .i64 _) rfl)) ?_
 refine lv 38 (by kernel_rfl) (fun w1 c1 => (om (v := .bool _) rfl)) ?_
 refine lv 4 (by kernel_rfl) (fun w1 c1 => (oa (v := .int .i64 _) rfl)) ?_
 refine lv 5 (by kernel_rfl) (fun w1 c1 => (oa (v := .int .i64 _) rfl)) ?_
 refine lv 6 (by kernel_rfl) (fun w1 c1 => (oa (v := .bool _) rfl)) ?_
 refine ln ?_
 refine xn ?_
 refine cm_ret ?_
 exact xm_retTTT rfl (by kernel_rfl) (show _ = Value.int .i64 _ from rfl) (by kernel_rfl) (show _ = Value.int .i64 _ from rfl) (by kernel_rfl) (show _ = Value.bool _ from rfl) fun w1 c1 => ⟨(), rfl, hsub [] (by kernel_rfl) rfl w1 c1⟩
/-- bill.Credit -/
def m_bill_Credit (N : Nat) (p0 : ApiBill) (p1 : Int) (p2 : Int) : Option (ApiBill × Int) :=
 (if 512 ≤ (List.length p0.Items : Int) then
  some (((ApiBill.mk 0 0 (ApiWindow.mk 0 0) ([] : List ApiItem) 0), (8 : Int)))
 else
  Option.bind (m_bill_money N p0.Total) fun r8 => callIf ((!(!r8)) = true) (m_slices_ContainsFunc_bill_Credit_1 N p0.Items) fun r10 => (if ((((!r8) || r10) || (decide (p2 < 1))) || (decide (1000000000000 < p2))) = true then
   some (((ApiBill.mk 0 0 (ApiWindow.mk 0 0) ([] : List ApiItem) 0), (1 : Int)))
  else
   Option.bind (m_bill_account N p0.Items p1) fun r16 => (if (!r16.2.2) = true then
    some (((ApiBill.mk 0 0 (ApiWindow.mk 0 0) ([] : List ApiItem) 0), (7 : Int)))
   else
    ck (I64 (r16.2.1 + p2)) (
     (if r16.1 < (r16.2.1 + p2) then
      some (((ApiBill.mk 0 0 (ApiWindow.mk 0 0) ([] : List ApiItem) 0), (1 : Int)))
     else
      ck (I64 ((List.length p0.Items : Int) + (1 : Int))) (
       ck ((0 : Int) ≤ (List.length p0.Items : Int) ∧ (List.length p0.Items : Int) ≤ ((List.length p0.Items : Int) + (1 : Int)) ∧ Int.toNat ((List.length p0.Items : Int) + (1 : Int)) * 40 ≤ 140737488355328) (
        ck (I64 (-p2)) (
         ck (I64 (-p2)) (
          ck ((List.length (copyAt (List.replicate (Int.toNat (List.length p0.Items : Int)) (ApiItem.mk (0 : Int) (0 : Int) (0 : Int) (0 : Int) (0 : Int))) 0 p0.Items (min (List.length (List.replicate (Int.toNat (List.length p0.Items : Int)) (ApiItem.mk (0 : Int) (0 : Int) (0 : Int) (0 : Int) (0 : Int))) - 0) (List.length p0.Items))) + List.length ([(ApiItem.mk 4 p1 1 (-p2) (-p2))])) * 40 ≤ 140737488355328) (
           ck (I64 (p0.Total - p2)) (
            some (((ApiBill.mk p0.ID p0.Household p0.When ((copyAt (List.replicate (Int.toNat (List.length p0.Items : Int)) (ApiItem.mk (0 : Int) (0 : Int) (0 : Int) (0 : Int) (0 : Int))) 0 p0.Items (min (List.length (List.replicate (Int.toNat (List.length p0.Items : Int)) (ApiItem.mk (0 : Int) (0 : Int) (0 : Int) (0 : Int) (0 : Int))) - 0) (List.length p0.Items))) ++ ([(ApiItem.mk 4 p1 1 (-p2) (-p2))])) (p0.Total - p2)), (0 : Int))))))))))))))
set_option maxHeartbeats 2000000 in
set_option maxRecDepth 20000 in
theorem m_bill_Credit_ok (N : Nat) (w0 : World) (p0 : ApiBill) (p1 : Int) (p2 : Int) (A_p01 : Option Addr) (n_p01 c_p01 : Nat) (hr_p01 : RdE w0 5 encApiItem A_p01 p0.Items) (hz_p01 : SW A_p01 n_p01 c_p01 (List.length p0.Items)) (r : ApiBill × Int) (hr : m_bill_Credit N p0 p1 p2 = some r) :
  Calls Tryz.prog 25 [.agg #[.int .i64 p0.ID, .int .i64 p0.Household, .int .i64 p0.When.From, .int .i64 p0.When.To, .slice A_p01 n_p01 c_p01, .int .i64 p0.Total], .int .i64 p1, .int .i64 p2].toArray w0 fun x w1 => ∃ u, x = .returned ((fun (r : ApiBill × Int) (u : (Option Addr) × Nat × Nat) => .tuple #[.agg #[.int .i64 r.1.ID, .int .i64 r.1.Household, .int .i64 r.1.When.From, .int .i64 r.1.When.To, .slice u.1 u.2.1 u.2.2, .int .i64 r.1.Total], .int .i64 r.2]) r u) ∧ Hs w0 ((fun (r : ApiBill × Int) (u : (Option Addr) × Nat × Nat) => [ownE 66 5 encApiItem u.1 u.2.1 u.2.2 r.1.Items]) r u) w1 := by
 refine calls_cm (n := 85) (R := fun r x w1 => ∃ u, x = .returned ((fun (r : ApiBill × Int) (u : (Option Addr) × Nat × Nat) => .tuple #[.agg #[.int .i64 r.1.ID, .int .i64 r.1.Household, .int .i64 r.1.When.From, .int .i64 r.1.When.To, .slice u.1 u.2.1 u.2.2, .int .i64 r.1.Total], .int .i64 r.2]) r u) ∧ Hs w0 ((fun (r : ApiBill × Int) (u : (Option Addr) × Nat × Nat) => [ownE 66 5 encApiItem u.1 u.2.1 u.2.2 r.1.Items]) r u) w1) Tryz.func25 rfl rfl (Nat.le_of_ble_eq_true rfl) ?_ r hr
 unfold m_bill_Credit
 refine cq ?_
 refine cr ?_
 refine lm_box 3 [.int .i64 _, .int .i64 _, .int .i64 _, .int .i64 _, .slice _ _ _, .int .i64 _] (by kernel_rfl) rfl ?_
 intro b5
 refine lm_alloc 6 [.int .i64 0, .int .i64 0, .int .i64 0, .int .i64 0, .slice none 0 0, .int .i64 0] (v := .agg #[.int .i64 0, .int .i64 0, .int .i64 0, .int .i64 0, .slice none 0 0, .int .i64 0]) (by kernel_rfl) (by kernel_rfl) rfl ?_
 intro b6
 refine lv 7 (by kernel_rfl) (fun w1 c1 => (oa (v := .int .i64 _) rfl)) ?_
 refine ln ?_
 refine xn ?_
 refine cq ?_
 refine cq ?_
 refine cr ?_
 refine lv 12 (by kernel_rfl) (fun w1 c1 => (oF (m := 4) (k := 4) rfl (by kernel_rfl) rfl)) ?_
 refine lv 13 (by kernel_rfl) (fun w1 c1 => (ol rfl (by kernel_rfl) (c1.cell 1 (u := .slice _ _ _) rfl rfl))) ?_
 refine lv 14 (by kernel_rfl) (fun w1 c1 => (op_lenN rfl (by kernel_rfl) hz_p01.2.2)) ?_
 refine lv 15 (by kernel_rfl) (fun w1 c1 => (op_geq rfl rfl)) ?_
 refine ln ?_
 refine xn ?_
 refine cm_cond (by kernel_rfl) rfl (fun h7 => ?_) (fun h7 => ?_)
 ·skip
  refine cq ?_
  refine cr ?_
  refine lv 16 (by kernel_rfl) (fun w1 c1 => (op_build (z := [.int .i64 0, .int .i64 0, .int .i64 0, .int .i64 0, .slice none 0 0, .int .i64 0]) (tab := [(0, 1), (1, 1), (2, 2), (4, 1), (5, 1)]) (cs := [.int .i64 _, .int .i64 _, .int .i64 _, .int .i64 _, .slice _ _ _, .int .i64 _]) [] (by kernel_rfl) (by kernel_rfl) fillOk_nil rfl)) ?_
  refine lm_storeA 0 [.int .i64 _, .int .i64 _, .int .i64 _, .int .i64 _, .slice _ _ _, .int .i64 _] [_, _, _, _, _, _] (H' := [blkE _ _ [_, _, _, _, _, _], _]) (by kernel_rfl) rfl rfl (by kernel_rfl) rfl rfl (by kernel_rfl) rfl rfl ?_
  refine lv 7 (by kernel_rfl) (fun w1 c1 => (oa (v := .int .i64 _) rfl)) ?_
  refine ln ?_
  refine xn ?_
  refine cm_ret ?_
  refine xm_thenR ?_
  refine xm_nilrow 66 5 encApiItem ?_
  exact xm_retCT rfl (by kernel_rfl) (show _ = Value.pointer (some ⟨_, 0, none⟩) from rfl) (by kernel_rfl) (fun w1 c1 => c1.cells 1 (ds := [.int .i64 _, .int .i64 _, .int .i64 _, .int .i64 _, .slice _ _ _, .int .i64 _]) rfl rfl) (by kernel_rfl) (show _ = Value.int .i64 _ from rfl) fun w1 c1 => ⟨(none, 0, 0), rfl, hsub [0] (by kernel_rfl) rfl w1 c1⟩
 ·skip
  refine cm_skip ?_
  refine xn ?_
  refine cq ?_
  refine cq ?_
  refine cm_bind fun r8 h9 => ?_
  refine cm_callIf fun r10 h11 => ?_
  refine cm_cutE [(33, .bool ((((!r8) || r10) || (decide (p2 < 1))) || (decide (1000000000000 < p2))))] ?_ ?_
  ·skip
   refine wv 17 (by kernel_rfl) (fun w1 c1 => (oF (m := 5) (k := 5) rfl (by kernel_rfl) rfl)) ?_
   refine wv 18 (by kernel_rfl) (fun w1 c1 => (ol rfl (by kernel_rfl) (c1.cell 1 (u := .int .i64 _) rfl rfl))) ?_
   refine wq_callb 19 (by kernel_rfl) (fun w1 c1 => op_call (by kernel_rfl)) (fun w1 c1 => (m_bill_money_ok N w1 p0.Total  r8 h9).mono (fun _ _ ⟨_, hx, hu⟩ => ⟨hx, c1.call hu⟩)) (fun h12 => ?_) (fun h12 => ?_)
   ·skip
    refine wv 20 (by kernel_rfl) (fun w1 c1 => (op_nott rfl)) ?_
    refine wv 21 (by kernel_rfl) (fun w1 c1 => (om (v := .bool false) rfl)) ?_
    refine wv 22 (by kernel_rfl) (fun w1 c1 => (oF (m := 4) (k := 4) rfl (by kernel_rfl) rfl)) ?_
    refine wv 23 (by kernel_rfl) (fun w1 c1 => (ol rfl (by kernel_rfl) (c1.cell 1 (u := .slice _ _ _) rfl rfl))) ?_
    refine wq_callb 24 (by kernel_rfl) (fun w1 c1 => op_call (by kernel_rfl)) (fun w1 c1 => (m_slices_ContainsFunc_bill_Credit_1_ok N w1 p0.Items A_p01 n_p01 c_p01 (hr_p01.old c1) hz_p01 r10 (h11 (by rw [h12] <;> rfl))).mono (fun _ _ ⟨_, hx, hu⟩ => ⟨hx, c1.call hu⟩)) (fun h13 => ?_) (fun h13 => ?_)
    ·skip
     refine wv 25 (by kernel_rfl) (fun w1 c1 => (opf (v := .bool true) rfl rfl)) ?_
     refine wv 26 (by kernel_rfl) (fun w1 c1 => (om (v := .bool true) rfl)) ?_
     refine wk 27 (by kernel_rfl) ?_
     refine wk 28 (by kernel_rfl) ?_
     refine wv 29 (by kernel_rfl) (fun w1 c1 => (opt (v := .bool true) rfl rfl)) ?_
     refine wv 30 (by kernel_rfl) (fun w1 c1 => (om (v := .bool true) rfl)) ?_
     refine wk 31 (by kernel_rfl) ?_
     refine wk 32 (by kernel_rfl) ?_
     refine wv 33 (by kernel_rfl) (fun w1 c1 => (opt (v := .bool true) rfl rfl)) ?_
     exact leaf_q (sub_out 17 _ rfl (by kernel_rfl) ⟨(congrArg Value.bool (by rw [h12, h13] <;> rfl)), trivial⟩)
    ·skip
     refine wv 25 (by kernel_rfl) (fun w1 c1 => (opf (v := .bool false) rfl rfl)) ?_
     refine wv 26 (by kernel_rfl) (fun w1 c1 => (om (v := .bool false) rfl)) ?_
     refine wv 27 (by kernel_rfl) (fun w1 c1 => (om (v := .int .i64 _) rfl)) ?_
     refine wq_dec 28 (by kernel_rfl) (fun w1 c1 => (op_lss rfl rfl)) (fun h14 => ?_) (fun h14 => ?_)
     ·skip
      refine wv 29 (by kernel_rfl) (fun w1 c1 => (opf (v := .bool true) rfl rfl)) ?_
      refine wv 30 (by kernel_rfl) (fun w1 c1 => (om (v := .bool true) rfl)) ?_
      refine wk 31 (by kernel_rfl) ?_
      refine wk 32 (by kernel_rfl) ?_
      refine wv 33 (by kernel_rfl) (fun w1 c1 => (opt (v := .bool true) rfl rfl)) ?_
      exact leaf_q (sub_out 17 _ rfl (by kernel_rfl) ⟨(congrArg Value.bool (by rw [h12, h13, decide_eq_true h14] <;> rfl)), trivial⟩)
     ·skip
      refine wv 29 (by kernel_rfl) (fun w1 c1 => (opf (v := .bool false) rfl rfl)) ?_
      refine wv 30 (by kernel_rfl) (fun w1 c1 => (om (v := .bool false) rfl)) ?_
      refine wv 31 (by kernel_rfl) (fun w1 c1 => (om (v := .int .i64 _) rfl)) ?_
      refine wv 32 (by kernel_rfl) (fun w1 c1 => (op_gtr rfl rfl)) ?_
      refine wv 33 (by kernel_rfl) (fun w1 c1 => (opf (v := .bool _) rfl rfl)) ?_
      exact leaf_q (sub_out 17 _ rfl (by kernel_rfl) ⟨(congrArg Value.bool (by rw [h12, h13, decide_eq_false h14] <;> rfl)), trivial⟩)
   ·skip
    refine wv 20 (by kernel_rfl) (fun w1 c1 => (op_notf rfl)) ?_
    refine wv 21 (by kernel_rfl) (fun w1 c1 => (om (v := .bool true) rfl)) ?_
    refine wk 22 (by kernel_rfl) ?_
    refine wk 23 (by kernel_rfl) ?_
    refine wk 24 (by kernel_rfl) ?_
    refine wv 25 (by kernel_rfl) (fun w1 c1 => (opt (v := .bool true) rfl rfl)) ?_
    refine wv 26 (by kernel_rfl) (fun w1 c1 => (om (v := .bool true) rfl)) ?_
    refine wk 27 (by kernel_rfl) ?_
    refine wk 28 (by kernel_rfl) ?_
    refine wv 29 (by kernel_rfl) (fun w1 c1 => (opt (v := .bool true) rfl rfl)) ?_
    refine wv 30 (by kernel_rfl) (fun w1 c1 => (om (v := .bool true) rfl)) ?_
    refine wk 31 (by kernel_rfl) ?_
    refine wk 32 (by kernel_rfl) ?_
    refine wv 33 (by kernel_rfl) (fun w1 c1 => (opt (v := .bool true) rfl rfl)) ?_
    exact leaf_q (sub_out 17 _ rfl (by kernel_rfl) ⟨(congrArg Value.bool (by rw [h12] <;> rfl)), trivial⟩)
  refine xn ?_
  refine cm_condB (by kernel_rfl) rfl (fun h15 => ?_) (fun h15 => ?_)
  ·skip
   refine cq ?_
   refine cr ?_
   refine lv 34 (by kernel_rfl) (fun w1 c1 => (op_build (z := [.int .i64 0, .int .i64 0, .int .i64 0, .int .i64 0, .slice none 0 0, .int .i64 0]) (tab := [(0, 1), (1, 1), (2, 2), (4, 1), (5, 1)]) (cs := [.int .i64 _, .int .i64 _, .int .i64 _, .int .i64 _, .slice _ _ _, .int .i64 _]) [] (by kernel_rfl) (by kernel_rfl) fillOk_nil rfl)) ?_
   refine lm_storeA 0 [.int .i64 _, .int .i64 _, .int .i64 _, .int .i64 _, .slice _ _ _, .int .i64 _] [_, _, _, _, _, _] (H' := [blkE _ _ [_, _, _, _, _, _], _]) (by kernel_rfl) rfl rfl (by kernel_rfl) rfl rfl (by kernel_rfl) rfl rfl ?_
   refine lv 7 (by kernel_rfl) (fun w1 c1 => (oa (v := .int .i64 _) rfl)) ?_
   refine ln ?_
   refine xn ?_
   refine cm_ret ?_
   refine xm_thenR ?_
   refine xm_nilrow 66 5 encApiItem ?_
   exact xm_retCT rfl (by kernel_rfl) (show _ = Value.pointer (some ⟨_, 0, none⟩) from rfl) (by kernel_rfl) (fun w1 c1 => c1.cells 1 (ds := [.int .i64 _, .int .i64 _, .int .i64 _, .int .i64 _, .slice _ _ _, .int .i64 _]) rfl rfl) (by kernel_rfl) (show _ = Value.int .i64 _ from rfl) fun w1 c1 => ⟨(none, 0, 0), rfl, hsub [0] (by kernel_rfl) rfl w1 c1⟩
  ·skip
   refine cm_skip ?_
   refine xn ?_
   refine cq ?_
   refine cr ?_
   refine lv 36 (by kernel_rfl) (fun w1 c1 => (oF (m := 4) (k := 4) rfl (by kernel_rfl) rfl)) ?_
   refine lv 37 (by kernel_rfl) (fun w1 c1 => (ol rfl (by kernel_rfl) (c1.cell 1 (u := .slice _ _ _) rfl rfl))) ?_
   refine lv 38 (by kernel_rfl) (fun w1 c1 => (om (v := .int .i64 _) rfl)) ?_
   refine lm_call 39 (V := (fun (r : Int × Int × Bool) (_u : Unit) => .tuple #[.int .i64 r.1, .int .i64 r.2.1, .bool r.2.2])) (HR := (fun (_r : Int × Int × Bool) (_u : Unit) => [])) (by kernel_rfl) (fun w1 => op_call (by kernel_rfl)) (fun r1 hr1 w1 c1 => m_bill_account_ok N w1 p0.Items p1 A_p01 n_p01 c_p01 (hr_p01.old c1) hz_p01 r1 hr1) ?_
   intro r16 u17
   refine lv 35 (by kernel_rfl) (fun w1 c1 => (om (v := .tuple _) rfl)) ?_
   refine lv 40 (by kernel_rfl) (fun w1 c1 => (op_extract (v := .int .i64 _) rfl rfl)) ?_
   refine lv 41 (by kernel_rfl) (fun w1 c1 => (op_extract (v := .int .i64 _) rfl rfl)) ?_
   refine lv 42 (by kernel_rfl) (fun w1 c1 => (op_extract (v := .bool _) rfl rfl)) ?_
   refine lv 8 (by kernel_rfl) (fun w1 c1 => (oa (v := .int .i64 _) rfl)) ?_
   refine lv 9 (by kernel_rfl) (fun w1 c1 => (oa (v := .int .i64 _) rfl)) ?_
   refine lv 10 (by kernel_rfl) (fun w1 c1 => (oa (v := .bool _) rfl)) ?_
   refine ln ?_
   refine xn ?_
   refine cq ?_
   refine cq ?_
   refine cr ?_
   refine lv 43 (by kernel_rfl) (fun w1 c1 => (om (v := .bool _) rfl)) ?_
   refine lv 44 (by kernel_rfl) (fun w1 c1 => (op_not rfl)) ?_
   refine ln ?_
   refine xn ?_
   refine cm_condB (by kernel_rfl) rfl (fun h18 => ?_) (fun h18 => ?_)
   ·skip
    refine cq ?_
    refine cr ?_
    refine lv 45 (by kernel_rfl) (fun w1 c1 => (op_build (z := [.int .i64 0, .int .i64 0, .int .i64 0, .int .i64 0, .slice none 0 0, .int .i64 0]) (tab := [(0, 1), (1, 1), (2, 2), (4, 1), (5, 1)]) (cs := [.int .i64 _, .int .i64 _, .int .i64 _, .int .i64 _, .slice _ _ _, .int .i64 _]) [] (by kernel_rfl) (by kernel_rfl) fillOk_nil rfl)) ?_
    refine lm_storeA 0 [.int .i64 _, .int .i64 _, .int .i64 _, .int .i64 _, .slice _ _ _, .int .i64 _] [_, _, _, _, _, _] (H' := [blkE _ _ [_, _, _, _, _, _], _]) (by kernel_rfl) rfl rfl (by kernel_rfl) rfl rfl (by kernel_rfl) rfl rfl ?_
    refine lv 7 (by kernel_rfl) (fun w1 c1 => (oa (v := .int .i64 _) rfl)) ?_
    refine ln ?_
    refine xn ?_
    refine cm_ret ?_
    refine xm_thenR ?_
    refine xm_nilrow 66 5 encApiItem ?_
    exact xm_retCT rfl (by kernel_rfl) (show _ = Value.pointer (some ⟨_, 0, none⟩) from rfl) (by kernel_rfl) (fun w1 c1 => c1.cells 1 (ds := [.int .i64 _, .int .i64 _, .int .i64 _, .int .i64 _, .slice _ _ _, .int .i64 _]) rfl rfl) (by kernel_rfl) (show _ = Value.int .i64 _ from rfl) fun w1 c1 => ⟨(none, 0, 0), rfl, hsub [0] (by kernel_rfl) rfl w1 c1⟩
   ·skip
    refine cm_skip ?_
    refine xn ?_
    refine cq ?_
    refine cq ?_
    refine cr ?_
    refine lv 46 (by kernel_rfl) (fun w1 c1 => (om (v := .int .i64 _) rfl)) ?_
    refine lv 47 (by kernel_rfl) (fun w1 c1 => (om (v := .int .i64 _) rfl)) ?_
    refine lm_ck (fun h19 => ?_)
    refine lv 48 (by kernel_rfl) (fun w1 c1 => (op_add rfl rfl h19)) ?_
    refine lv 49 (by kernel_rfl) (fun w1 c1 => (om (v := .int .i64 _) rfl)) ?_
    refine lv 50 (by kernel_rfl) (fun w1 c1 => (op_gtr rfl rfl)) ?_
    refine ln ?_
    refine xn ?_
    refine cm_cond (by kernel_rfl) rfl (fun h20 => ?_) (fun h20 => ?_)
    ·skip
     refine cq ?_
     refine cr ?_
     refine lv 51 (by kernel_rfl) (fun w1 c1 => (op_build (z := [.int .i64 0, .int .i64 0, .int .i64 0, .int .i64 0, .slice none 0 0, .int .i64 0]) (tab := [(0, 1), (1, 1), (2, 2), (4, 1), (5, 1)]) (cs := [.int .i64 _, .int .i64 _, .int .i64 _, .int .i64 _, .slice _ _ _, .int .i64 _]) [] (by kernel_rfl) (by kernel_rfl) fillOk_nil rfl)) ?_
     refine lm_storeA 0 [.int .i64 _, .int .i64 _, .int .i64 _, .int .i64 _, .slice _ _ _, .int .i64 _] [_, _, _, _, _, _] (H' := [blkE _ _ [_, _, _, _, _, _], _]) (by kernel_rfl) rfl rfl (by kernel_rfl) rfl rfl (by kernel_rfl) rfl rfl ?_
     refine lv 7 (by kernel_rfl) (fun w1 c1 => (oa (v := .int .i64 _) rfl)) ?_
     refine ln ?_
     refine xn ?_
     refine cm_ret ?_
     refine xm_thenR ?_
     refine xm_nilrow 66 5 encApiItem ?_
     exact xm_retCT rfl (by kernel_rfl) (show _ = Value.pointer (some ⟨_, 0, none⟩) from rfl) (by kernel_rfl) (fun w1 c1 => c1.cells 1 (ds := [.int .i64 _, .int .i64 _, .int .i64 _, .int .i64 _, .slice _ _ _, .int .i64 _]) rfl rfl) (by kernel_rfl) (show _ = Value.int .i64 _ from rfl) fun w1 c1 => ⟨(none, 0, 0), rfl, hsub [0] (by kernel_rfl) rfl w1 c1⟩
    ·skip
     refine cm_skip ?_
     refine xn ?_
     refine cq ?_
     refine cr ?_
     refine lv 52 (by kernel_rfl) (fun w1 c1 => (oF (m := 4) (k := 4) rfl (by kernel_rfl) rfl)) ?_
     refine lv 53 (by kernel_rfl) (fun w1 c1 => (ol rfl (by kernel_rfl) (c1.cell 1 (u := .slice _ _ _) rfl rfl))) ?_
     refine lv 54 (by kernel_rfl) (fun w1 c1 => (op_lenN rfl (by kernel_rfl) hz_p01.2.2)) ?_
     refine lv 55 (by kernel_rfl) (fun w1 c1 => (oF (m := 4) (k := 4) rfl (by kernel_rfl) rfl)) ?_
     refine lv 56 (by kernel_rfl) (fun w1 c1 => (ol rfl (by kernel_rfl) (c1.cell 1 (u := .slice _ _ _) rfl rfl))) ?_
     refine lv 57 (by kernel_rfl) (fun w1 c1 => (op_lenN rfl (by kernel_rfl) hz_p01.2.2)) ?_
     refine lm_ck (fun h21 => ?_)
     refine lv 58 (by kernel_rfl) (fun w1 c1 => (op_add rfl rfl h21)) ?_
     refine lm_ck (fun h22 => ?_)
     refine lm_makeCap 59 (el := 66) (sz := 5) (bytes := 40) (enc := encApiItem) (ApiItem.mk (0 : Int) (0 : Int) (0 : Int) (0 : Int) (0 : Int)) (zv := .agg #[.int .i64 0, .int .i64 0, .int .i64 0, .int .i64 0, .int .i64 0]) (by kernel_rfl) (by kernel_rfl) (by kernel_rfl) rfl encApiItem_len rfl rfl h22.1 h22.2.1 h22.2.2 (by kernel_rfl) ?_
     intro A23 n24 k25 h26
     refine lv 11 (by kernel_rfl) (fun w1 c1 => (oa (v := .slice _ _ _) rfl)) ?_
     refine ln ?_
     refine xn ?_
     refine cq ?_
     refine cr ?_
     refine lv 60 (by kernel_rfl) (fun w1 c1 => (om (v := .slice _ _ _) rfl)) ?_
     refine lv 61 (by kernel_rfl) (fun w1 c1 => (oF (m := 4) (k := 4) rfl (by kernel_rfl) rfl)) ?_
     refine lv 62 (by kernel_rfl) (fun w1 c1 => (ol rfl (by kernel_rfl) (c1.cell 2 (u := .slice _ _ _) rfl rfl))) ?_
     refine lm_copy 63 0 (el := 66) (sz := 5) (bytes := 40) (enc := encApiItem) (l2 := p0.Items) 0 (by kernel_rfl) (by kernel_rfl) encApiItem_len encApiItem_one rfl rfl (fun w1 c1 => own_at (c1.own 0 rfl encApiItem_len) (c1.ownZ 0 rfl)) (fun w1 c1 => by rw [(c1.ownZ 0 rfl).2.2]; rfl) (Nat.zero_le _) rfl (fun w1 c1 => hz_p01) (fun w1 c1 => (hr_p01.old c1)) ?_
     refine ln ?_
     refine xn ?_
     refine cq ?_
     refine cr ?_
     refine lv 64 (by kernel_rfl) (fun w1 c1 => (om (v := .slice _ _ _) rfl)) ?_
     refine lv 65 (by kernel_rfl) (fun w1 c1 => (om (v := .int .i64 _) rfl)) ?_
     refine lv 66 (by kernel_rfl) (fun w1 c1 => (om (v := .int .i64 _) rfl)) ?_
     refine lm_ck (fun h27 => ?_)
     refine lv 67 (by kernel_rfl) (fun w1 c1 => (op_neg rfl h27)) ?_
     refine lv 68 (by kernel_rfl) (fun w1 c1 => (om (v := .int .i64 _) rfl)) ?_
     refine lm_ck (fun h28 => ?_)
     refine lv 69 (by kernel_rfl) (fun w1 c1 => (op_neg rfl h28)) ?_
     refine lv 70 (by kernel_rfl) (fun w1 c1 => (op_build (z := [.int .i64 0, .int .i64 0, .int .i64 0, .int .i64 0, .int .i64 0]) (tab := [(0, 1), (1, 1), (2, 1), (3, 1), (4, 1)]) (cs := [.int .i64 _, .int .i64 _, .int .i64 _, .int .i64 _, .int .i64 _]) [(0, [.int .i64 _]), (1, [.int .i64 _]), (2, [.int .i64 _]), (3, [.int .i64 _]), (4, [.int .i64 _])] (by kernel_rfl) (by kernel_rfl) (fillOk_cons rfl rfl rfl (fillOk_cons rfl rfl rfl (fillOk_cons rfl rfl rfl (fillOk_cons rfl rfl rfl (fillOk_cons rfl rfl rfl fillOk_nil))))) rfl)) ?_
     refine lm_slice1 71 (el := 66) (sz := 5) (bytes := 40) (enc := encApiItem) (ApiItem.mk 4 p1 1 (-p2) (-p2)) (by kernel_rfl) (by kernel_rfl) encApiItem_len rfl (by kernel_rfl) ?_
     intro A29 n30 k31 h32
     refine lm_ck (fun h33 => ?_)
     refine lm_append 72 1 (el := 66) (sz := 5) (bytes := 40) (enc := encApiItem) (l2 := ([(ApiItem.mk 4 p1 1 (-p2) (-p2))])) (by kernel_rfl) (by kernel_rfl) encApiItem_len encApiItem_one rfl rfl rfl (fun w1 c1 => (c1.ownZ 0 rfl)) (fun w1 c1 => (c1.own 0 rfl encApiItem_len)) h33 ?_ (by kernel_rfl)
     intro A34 n35 k36
     refine lv 11 (by kernel_rfl) (fun w1 c1 => (oa (v := .slice _ _ _) rfl)) ?_
     refine ln ?_
     refine xn ?_
     refine cq ?_
     refine cr ?_
     refine lv 73 (by kernel_rfl) (fun w1 c1 => (oF (m := 0) (k := 0) rfl (by kernel_rfl) rfl)) ?_
     refine lv 74 (by kernel_rfl) (fun w1 c1 => (ol rfl (by kernel_rfl) (c1.cell 3 (u := .int .i64 _) rfl rfl))) ?_
     refine lv 75 (by kernel_rfl) (fun w1 c1 => (oF (m := 1) (k := 1) rfl (by kernel_rfl) rfl)) ?_
     refine lv 76 (by kernel_rfl) (fun w1 c1 => (ol rfl (by kernel_rfl) (c1.cell 3 (u := .int .i64 _) rfl rfl))) ?_
     refine lv 77 (by kernel_rfl) (fun w1 c1 => (oF (m := 2) (k := 2) rfl (by kernel_rfl) rfl)) ?_
     refine lv 78 (by kernel_rfl) (fun w1 c1 => (op_loadR [.int .i64 _, .int .i64 _] rfl (by kernel_rfl) (c1.cells 3 rfl rfl))) ?_
     refine lv 79 (by kernel_rfl) (fun w1 c1 => (om (v := .slice _ _ _) rfl)) ?_
     refine lv 80 (by kernel_rfl) (fun w1 c1 => (oF (m := 5) (k := 5) rfl (by kernel_rfl) rfl)) ?_
     refine lv 81 (by kernel_rfl) (fun w1 c1 => (ol rfl (by kernel_rfl) (c1.cell 3 (u := .int .i64 _) rfl rfl))) ?_
     refine lv 82 (by kernel_rfl) (fun w1 c1 => (om (v := .int .i64 _) rfl)) ?_
     refine lm_ck (fun h37 => ?_)
     refine lv 83 (by kernel_rfl) (fun w1 c1 => (op_sub rfl rfl h37)) ?_
     refine lv 84 (by kernel_rfl) (fun w1 c1 => (op_build (z := [.int .i64 0, .int .i64 0, .int .i64 0, .int .i64 0, .slice none 0 0, .int .i64 0]) (tab := [(0, 1), (1, 1), (2, 2), (4, 1), (5, 1)]) (cs := [.int .i64 _, .int .i64 _, .int .i64 _, .int .i64 _, .slice _ _ _, .int .i64 _]) [(0, [.int .i64 _]), (1, [.int .i64 _]), (2, [.int .i64 _, .int .i64 _]), (4, [.slice _ _ _]), (5, [.int .i64 _])] (by kernel_rfl) (by kernel_rfl) (fillOk_cons rfl rfl rfl (fillOk_cons rfl rfl rfl (fillOk_cons rfl rfl rfl (fillOk_cons rfl rfl rfl (fillOk_cons rfl rfl rfl fillOk_nil))))) rfl)) ?_
     refine lm_storeA 2 [.int .i64 _, .int .i64 _, .int .i64 _, .int .i64 _, .slice _ _ _, .int .i64 _] [_, _, _, _, _, _] (H' := [_, _, blkE _ _ [_, _, _, _, _, _], _]) (by kernel_rfl) rfl rfl (by kernel_rfl) rfl rfl (by kernel_rfl) rfl rfl ?_
     refine lv 7 (by kernel_rfl) (fun w1 c1 => (oa (v := .int .i64 _) rfl)) ?_
     refine ln ?_
     refine xn ?_
     refine cm_ret ?_
     exact xm_retCT rfl (by kernel_rfl) (show _ = Value.pointer (some ⟨_, 0, none⟩) from rfl) (by kernel_rfl) (fun w1 c1 => c1.cells 2 (ds := [.int .i64 _, .int .i64 _, .int .i64 _, .int .i64 _, .slice _ _ _, .int .i64 _]) rfl rfl) (by kernel_rfl) (show _ = Value.int .i64 _ from rfl) fun w1 c1 => ⟨(A34, n35, k36), rfl, hsub [1] (by kernel_rfl) rfl w1 c1⟩
/-- complaint.Apply -/
def m_complaint_Apply (N : Nat) (p0 : ApiBill) (p1 : ApiComplaint) (p2 : ApiRuling) : Option (ApiBill × Int) :=
 Option.bind (m_complaint_Check N p1) fun r9 => (if r9 ≠ 0 then
  some (((ApiBill.mk 0 0 (ApiWindow.mk 0 0) ([] : List ApiItem) 0), r9))
 else
  (if p1.Bill ≠ p0.ID then
   some (((ApiBill.mk 0 0 (ApiWindow.mk 0 0) ([] : List ApiItem) 0), (34 : Int)))
  else
   (if p2.Err ≠ 0 then
    some (((ApiBill.mk 0 0 (ApiWindow.mk 0 0) ([] : List ApiItem) 0), (13 : Int)))
   else
    Option.bind (m_complaint_disputed N p0 p1) fun r14 => (if (!r14.2) = true then
     some (((ApiBill.mk 0 0 (ApiWindow.mk 0 0) ([] : List ApiItem) 0), (7 : Int)))
    else
     Option.bind (m_bill_Credit N p0 r14.1.Ref p2.Credit) fun r18 => some ((r18.1, r18.2))))))
set_option maxHeartbeats 2000000 in
set_option maxRecDepth 20000 in
theorem m_complaint_Apply_ok (N : Nat) (w0 : World) (p0 : ApiBill) (p1 : ApiComplaint) (p2 : ApiRuling) (A_p01 : Option Addr) (n_p01 c_p01 : Nat) (hr_p01 : RdE w0 5 encApiItem A_p01 p0.Items) (hz_p01 : SW A_p01 n_p01 c_p01 (List.length p0.Items)) (r : ApiBill × Int) (hr : m_complaint_Apply N p0 p1 p2 = some r) :
  Calls Tryz.prog 9 [.agg #[.int .i64 p0.ID, .int .i64 p0.Household, .int .i64 p0.When.From, .int .i64 p0.When.To, .slice A_p01 n_p01 c_p01, .int .i64 p0.Total], .agg #[.int .i64 p1.Bill, .int .i64 p1.Item, .int .i64 p1.At, .int .i64 p1.Kind], .agg #[.int .i64 p2.Credit, .int .i64 p2.Err]].toArray w0 fun x w1 => ∃ u, x = .returned ((fun (r : ApiBill × Int) (u : (Option Addr) × Nat × Nat) => .tuple #[.agg #[.int .i64 r.1.ID, .int .i64 r.1.Household, .int .i64 r.1.When.From, .int .i64 r.1.When.To, .slice u.1 u.2.1 u.2.2, .int .i64 r.1.Total], .int .i64 r.2]) r u) ∧ Hs w0 ((fun (r : ApiBill × Int) (u : (Option Addr) × Nat × Nat) => [ownE 66 5 encApiItem u.1 u.2.1 u.2.2 r.1.Items]) r u) w1 := by
 refine calls_cm (n := 44) (R := fun r x w1 => ∃ u, x = .returned ((fun (r : ApiBill × Int) (u : (Option Addr) × Nat × Nat) => .tuple #[.agg #[.int .i64 r.1.ID, .int .i64 r.1.Household, .int .i64 r.1.When.From, .int .i64 r.1.When.To, .slice u.1 u.2.1 u.2.2, .int .i64 r.1.Total], .int .i64 r.2]) r u) ∧ Hs w0 ((fun (r : ApiBill × Int) (u : (Option Addr) × Nat × Nat) => [ownE 66 5 encApiItem u.1 u.2.1 u.2.2 r.1.Items]) r u) w1) Tryz.func9 rfl rfl (Nat.le_of_ble_eq_true rfl) ?_ r hr
 unfold m_complaint_Apply
 refine cq ?_
 refine cr ?_
 refine lm_box 3 [.int .i64 _, .int .i64 _, .int .i64 _, .int .i64 _, .slice _ _ _, .int .i64 _] (by kernel_rfl) rfl ?_
 intro b5
 refine lm_box 4 [.int .i64 _, .int .i64 _, .int .i64 _, .int .i64 _] (by kernel_rfl) rfl ?_
 intro b6
 refine lm_box 5 [.int .i64 _, .int .i64 _] (by kernel_rfl) rfl ?_
 intro b7
 refine lm_alloc 6 [.int .i64 0, .int .i64 0, .int .i64 0, .int .i64 0, .slice none 0 0, .int .i64 0] (v := .agg #[.int .i64 0, .int .i64 0, .int .i64 0, .int .i64 0, .slice none 0 0, .int .i64 0]) (by kernel_rfl) (by kernel_rfl) rfl ?_
 intro b8
 refine lv 7 (by kernel_rfl) (fun w1 c1 => (oa (v := .int .i64 _) rfl)) ?_
 refine ln ?_
 refine xn ?_
 refine cq ?_
 refine cq ?_
 refine cr ?_
 refine lv 11 (by kernel_rfl) (fun w1 c1 => (op_loadR [.int .i64 _, .int .i64 _, .int .i64 _, .int .i64 _] rfl (by kernel_rfl) (c1.cells 2 rfl rfl))) ?_
 refine lm_call 12 (V := (fun (r : Int) (_u : Unit) => .int .i64 r)) (HR := (fun (_r : Int) (_u : Unit) => [])) (by kernel_rfl) (fun w1 => op_call (by kernel_rfl)) (fun r1 hr1 w1 c1 => m_complaint_Check_ok N w1 p1  r1 hr1) ?_
 intro r9 u10
 refine lv 8 (by kernel_rfl) (fun w1 c1 => (oa (v := .int .i64 _) rfl)) ?_
 refine ln ?_
 refine xn ?_
 refine cq ?_
 refine cr ?_
 refine lv 13 (by kernel_rfl) (fun w1 c1 => (om (v := .int .i64 _) rfl)) ?_
 refine lv 14 (by kernel_rfl) (fun w1 c1 => (op_neq rfl rfl)) ?_
 refine ln ?_
 refine xn ?_
 refine cm_cond (by kernel_rfl) rfl (fun h11 => ?_) (fun h11 => ?_)
 ·skip
  refine cq ?_
  refine cr ?_
  refine lv 15 (by kernel_rfl) (fun w1 c1 => (op_build (z := [.int .i64 0, .int .i64 0, .int .i64 0, .int .i64 0, .slice none 0 0, .int .i64 0]) (tab := [(0, 1), (1, 1), (2, 2), (4, 1), (5, 1)]) (cs := [.int .i64 _, .int .i64 _, .int .i64 _, .int .i64 _, .slice _ _ _, .int .i64 _]) [] (by kernel_rfl) (by kernel_rfl) fillOk_nil rfl)) ?_
  refine lv 16 (by kernel_rfl) (fun w1 c1 => (om (v := .int .i64 _) rfl)) ?_
  refine lm_storeA 0 [.int .i64 _, .int .i64 _, .int .i64 _, .int .i64 _, .slice _ _ _, .int .i64 _] [_, _, _, _, _, _] (H' := [blkE _ _ [_, _, _, _, _, _], _, _, _]) (by kernel_rfl) rfl rfl (by kernel_rfl) rfl rfl (by kernel_rfl) rfl rfl ?_
  refine lv 7 (by kernel_rfl) (fun w1 c1 => (oa (v := .int .i64 _) rfl)) ?_
  refine ln ?_
  refine xn ?_
  refine cm_ret ?_
  refine xm_thenR ?_
  refine xm_nilrow 66 5 encApiItem ?_
  exact xm_retCT rfl (by kernel_rfl) (show _ = Value.pointer (some ⟨_, 0, none⟩) from rfl) (by kernel_rfl) (fun w1 c1 => c1.cells 1 (ds := [.int .i64 _, .int .i64 _, .int .i64 _, .int .i64 _, .slice _ _ _, .int .i64 _]) rfl rfl) (by kernel_rfl) (show _ = Value.int .i64 _ from rfl) fun w1 c1 => ⟨(none, 0, 0), rfl, hsub [0] (by kernel_rfl) rfl w1 c1⟩
 ·skip
  refine cm_skip ?_
  refine xn ?_
  refine cq ?_
  refine cq ?_
  refine cr ?_
  refine lv 17 (by kernel_rfl) (fun w1 c1 => (oF (m := 0) (k := 0) rfl (by kernel_rfl) rfl)) ?_
  refine lv 18 (by kernel_rfl) (fun w1 c1 => (ol rfl (by kernel_rfl) (c1.cell 2 (u := .int .i64 _) rfl rfl))) ?_
  refine lv 19 (by kernel_rfl) (fun w1 c1 => (oF (m := 0) (k := 0) rfl (by kernel_rfl) rfl)) ?_
  refine lv 20 (by kernel_rfl) (fun w1 c1 => (ol rfl (by kernel_rfl) (c1.cell 3 (u := .int .i64 _) rfl rfl))) ?_
  refine lv 21 (by kernel_rfl) (fun w1 c1 => (op_neq rfl rfl)) ?_
  refine ln ?_
  refine xn ?_
  refine cm_cond (by kernel_rfl) rfl (fun h12 => ?_) (fun h12 => ?_)
  ·skip
   refine cq ?_
   refine cr ?_
   refine lv 22 (by kernel_rfl) (fun w1 c1 => (op_build (z := [.int .i64 0, .int .i64 0, .int .i64 0, .int .i64 0, .slice none 0 0, .int .i64 0]) (tab := [(0, 1), (1, 1), (2, 2), (4, 1), (5, 1)]) (cs := [.int .i64 _, .int .i64 _, .int .i64 _, .int .i64 _, .slice _ _ _, .int .i64 _]) [] (by kernel_rfl) (by kernel_rfl) fillOk_nil rfl)) ?_
   refine lm_storeA 0 [.int .i64 _, .int .i64 _, .int .i64 _, .int .i64 _, .slice _ _ _, .int .i64 _] [_, _, _, _, _, _] (H' := [blkE _ _ [_, _, _, _, _, _], _, _, _]) (by kernel_rfl) rfl rfl (by kernel_rfl) rfl rfl (by kernel_rfl) rfl rfl ?_
   refine lv 7 (by kernel_rfl) (fun w1 c1 => (oa (v := .int .i64 _) rfl)) ?_
   refine ln ?_
   refine xn ?_
   refine cm_ret ?_
   refine xm_thenR ?_
   refine xm_nilrow 66 5 encApiItem ?_
   exact xm_retCT rfl (by kernel_rfl) (show _ = Value.pointer (some ⟨_, 0, none⟩) from rfl) (by kernel_rfl) (fun w1 c1 => c1.cells 1 (ds := [.int .i64 _, .int .i64 _, .int .i64 _, .int .i64 _, .slice _ _ _, .int .i64 _]) rfl rfl) (by kernel_rfl) (show _ = Value.int .i64 _ from rfl) fun w1 c1 => ⟨(none, 0, 0), rfl, hsub [0] (by kernel_rfl) rfl w1 c1⟩
  ·skip
   refine cm_skip ?_
   refine xn ?_
   refine cq ?_
   refine cq ?_
   refine cr ?_
   refine lv 23 (by kernel_rfl) (fun w1 c1 => (oF (m := 1) (k := 1) rfl (by kernel_rfl) rfl)) ?_
   refine lv 24 (by kernel_rfl) (fun w1 c1 => (ol rfl (by kernel_rfl) (c1.cell 1 (u := .int .i64 _) rfl rfl))) ?_
   refine lv 25 (by kernel_rfl) (fun w1 c1 => (op_neq rfl rfl)) ?_
   refine ln ?_
   refine xn ?_
   refine cm_cond (by kernel_rfl) rfl (fun h13 => ?_) (fun h13 => ?_)
   ·skip
    refine cq ?_
    refine cr ?_
    refine lv 26 (by kernel_rfl) (fun w1 c1 => (op_build (z := [.int .i64 0, .int .i64 0, .int .i64 0, .int .i64 0, .slice none 0 0, .int .i64 0]) (tab := [(0, 1), (1, 1), (2, 2), (4, 1), (5, 1)]) (cs := [.int .i64 _, .int .i64 _, .int .i64 _, .int .i64 _, .slice _ _ _, .int .i64 _]) [] (by kernel_rfl) (by kernel_rfl) fillOk_nil rfl)) ?_
    refine lm_storeA 0 [.int .i64 _, .int .i64 _, .int .i64 _, .int .i64 _, .slice _ _ _, .int .i64 _] [_, _, _, _, _, _] (H' := [blkE _ _ [_, _, _, _, _, _], _, _, _]) (by kernel_rfl) rfl rfl (by kernel_rfl) rfl rfl (by kernel_rfl) rfl rfl ?_
    refine lv 7 (by kernel_rfl) (fun w1 c1 => (oa (v := .int .i64 _) rfl)) ?_
    refine ln ?_
    refine xn ?_
    refine cm_ret ?_
    refine xm_thenR ?_
    refine xm_nilrow 66 5 encApiItem ?_
    exact xm_retCT rfl (by kernel_rfl) (show _ = Value.pointer (some ⟨_, 0, none⟩) from rfl) (by kernel_rfl) (fun w1 c1 => c1.cells 1 (ds := [.int .i64 _, .int .i64 _, .int .i64 _, .int .i64 _, .slice _ _ _, .int .i64 _]) rfl rfl) (by kernel_rfl) (show _ = Value.int .i64 _ from rfl) fun w1 c1 => ⟨(none, 0, 0), rfl, hsub [0] (by kernel_rfl) rfl w1 c1⟩
   ·skip
    refine cm_skip ?_
    refine xn ?_
    refine cq ?_
    refine cr ?_
    refine lv 28 (by kernel_rfl) (fun w1 c1 => (op_loadR [.int .i64 _, .int .i64 _, .int .i64 _, .int .i64 _, .slice _ _ _, .int .i64 _] rfl (by kernel_rfl) (c1.cells 3 rfl rfl))) ?_
    refine lv 29 (by kernel_rfl) (fun w1 c1 => (op_loadR [.int .i64 _, .int .i64 _, .int .i64 _, .int .i64 _] rfl (by kernel_rfl) (c1.cells 2 rfl rfl))) ?_
    refine lm_call 30 (V := (fun (r : ApiItem × Bool) (_u : Unit) => .tuple #[.agg #[.int .i64 r.1.Kind, .int .i64 r.1.Ref, .int .i64 r.1.Count, .int .i64 r.1.Price, .int .i64 r.1.Amount], .bool r.2])) (HR := (fun (_r : ApiItem × Bool) (_u : Unit) => [])) (by kernel_rfl) (fun w1 => op_call (by kernel_rfl)) (fun r1 hr1 w1 c1 => m_complaint_disputed_ok N w1 p0 p1 A_p01 n_p01 c_p01 (hr_p01.old c1) hz_p01 r1 hr1) ?_
    intro r14 u15
    refine lv 27 (by kernel_rfl) (fun w1 c1 => (om (v := .tuple _) rfl)) ?_
    refine lv 31 (by kernel_rfl) (fun w1 c1 => (op_extract (v := .agg _) rfl rfl)) ?_
    refine lv 32 (by kernel_rfl) (fun w1 c1 => (op_extract (v := .bool _) rfl rfl)) ?_
    refine lm_alloc 9 [.int .i64 0, .int .i64 0, .int .i64 0, .int .i64 0, .int .i64 0] (v := .agg #[.int .i64 0, .int .i64 0, .int .i64 0, .int .i64 0, .int .i64 0]) (by kernel_rfl) (by kernel_rfl) rfl ?_
    intro b16
    refine lm_storeA 0 [.int .i64 _, .int .i64 _, .int .i64 _, .int .i64 _, .int .i64 _] [_, _, _, _, _] (H' := [blkE _ _ [_, _, _, _, _], _, _, _, _]) (by kernel_rfl) rfl rfl (by kernel_rfl) rfl rfl (by kernel_rfl) rfl rfl ?_
    refine lv 10 (by kernel_rfl) (fun w1 c1 => (oa (v := .bool _) rfl)) ?_
    refine ln ?_
    refine xn ?_
    refine cq ?_
    refine cq ?_
    refine cr ?_
    refine lv 33 (by kernel_rfl) (fun w1 c1 => (om (v := .bool _) rfl)) ?_
    refine lv 34 (by kernel_rfl) (fun w1 c1 => (op_not rfl)) ?_
    refine ln ?_
    refine xn ?_
    refine cm_condB (by kernel_rfl) rfl (fun h17 => ?_) (fun h17 => ?_)
    ·skip
     refine cq ?_
     refine cr ?_
     refine lv 35 (by kernel_rfl) (fun w1 c1 => (op_build (z := [.int .i64 0, .int .i64 0, .int .i64 0, .int .i64 0, .slice none 0 0, .int .i64 0]) (tab := [(0, 1), (1, 1), (2, 2), (4, 1), (5, 1)]) (cs := [.int .i64 _, .int .i64 _, .int .i64 _, .int .i64 _, .slice _ _ _, .int .i64 _]) [] (by kernel_rfl) (by kernel_rfl) fillOk_nil rfl)) ?_
     refine lm_storeA 1 [.int .i64 _, .int .i64 _, .int .i64 _, .int .i64 _, .slice _ _ _, .int .i64 _] [_, _, _, _, _, _] (H' := [_, blkE _ _ [_, _, _, _, _, _], _, _, _]) (by kernel_rfl) rfl rfl (by kernel_rfl) rfl rfl (by kernel_rfl) rfl rfl ?_
     refine lv 7 (by kernel_rfl) (fun w1 c1 => (oa (v := .int .i64 _) rfl)) ?_
     refine ln ?_
     refine xn ?_
     refine cm_ret ?_
     refine xm_thenR ?_
     refine xm_nilrow 66 5 encApiItem ?_
     exact xm_retCT rfl (by kernel_rfl) (show _ = Value.pointer (some ⟨_, 0, none⟩) from rfl) (by kernel_rfl) (fun w1 c1 => c1.cells 2 (ds := [.int .i64 _, .int .i64 _, .int .i64 _, .int .i64 _, .slice _ _ _, .int .i64 _]) rfl rfl) (by kernel_rfl) (show _ = Value.int .i64 _ from rfl) fun w1 c1 => ⟨(none, 0, 0), rfl, hsub [0] (by kernel_rfl) rfl w1 c1⟩
    ·skip
     refine cm_skip ?_
     refine xn ?_
     refine cq ?_
     refine cr ?_
     refine lv 36 (by kernel_rfl) (fun w1 c1 => (op_loadR [.int .i64 _, .int .i64 _, .int .i64 _, .int .i64 _, .slice _ _ _, .int .i64 _] rfl (by kernel_rfl) (c1.cells 4 rfl rfl))) ?_
     refine lv 37 (by kernel_rfl) (fun w1 c1 => (oF (m := 1) (k := 1) rfl (by kernel_rfl) rfl)) ?_
     refine lv 38 (by kernel_rfl) (fun w1 c1 => (ol rfl (by kernel_rfl) (c1.cell 0 (u := .int .i64 _) rfl rfl))) ?_
     refine lv 39 (by kernel_rfl) (fun w1 c1 => (oF (m := 0) (k := 0) rfl (by kernel_rfl) rfl)) ?_
     refine lv 40 (by kernel_rfl) (fun w1 c1 => (ol rfl (by kernel_rfl) (c1.cell 2 (u := .int .i64 _) rfl rfl))) ?_
     refine lm_call 41 (V := (fun (r : ApiBill × Int) (u : (Option Addr) × Nat × Nat) => .tuple #[.agg #[.int .i64 r.1.ID, .int .i64 r.1.Household, .int .i64 r.1.When.From, .int .i64 r.1.When.To, .slice u.1 u.2.1 u.2.2, .int .i64 r.1.Total], .int .i64 r.2])) (HR := (fun (r : ApiBill × Int) (u : (Option Addr) × Nat × Nat) => [ownE 66 5 encApiItem u.1 u.2.1 u.2.2 r.1.Items])) (by kernel_rfl) (fun w1 => op_call (by kernel_rfl)) (fun r1 hr1 w1 c1 => m_bill_Credit_ok N w1 p0 r14.1.Ref p2.Credit A_p01 n_p01 c_p01 (hr_p01.old c1) hz_p01 r1 hr1) ?_
     intro r18 u19
     refine lv 42 (by kernel_rfl) (fun w1 c1 => (op_extract (v := .agg _) rfl rfl)) ?_
     refine lv 43 (by kernel_rfl) (fun w1 c1 => (op_extract (v := .int .i64 _) rfl rfl)) ?_
     refine lm_storeA 2 [.int .i64 _, .int .i64 _, .int .i64 _, .int .i64 _, .slice _ _ _, .int .i64 _] [_, _, _, _, _, _] (H' := [_, _, blkE _ _ [_, _, _, _, _, _], _, _, _]) (by kernel_rfl) rfl rfl (by kernel_rfl) rfl rfl (by kernel_rfl) rfl rfl ?_
     refine lv 7 (by kernel_rfl) (fun w1 c1 => (oa (v := .int .i64 _) rfl)) ?_
     refine ln ?_
     refine xn ?_
     refine cm_ret ?_
     exact xm_retCT rfl (by kernel_rfl) (show _ = Value.pointer (some ⟨_, 0, none⟩) from rfl) (by kernel_rfl) (fun w1 c1 => c1.cells 2 (ds := [.int .i64 _, .int .i64 _, .int .i64 _, .int .i64 _, .slice _ _ _, .int .i64 _]) rfl rfl) (by kernel_rfl) (show _ = Value.int .i64 _ from rfl) fun w1 c1 => ⟨(u19.1, u19.2.1, u19.2.2), rfl, hsub [0] (by kernel_rfl) rfl w1 c1⟩
end Go.Proofs.YtljogldcejcikaaGreat
