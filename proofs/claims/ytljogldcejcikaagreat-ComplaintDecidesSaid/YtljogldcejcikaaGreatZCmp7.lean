/- Models of functions, and that the code follows them. Written by deco.py. -/
import Derived.Test.YtljogldcejcikaaGreatZCmp6
namespace Go.Proofs.YtljogldcejcikaaGreat
open Go.RowKit

/-- recyclingref57.disputed -/
def m_recyclingref57_disputed (_N : Nat) (p0 : ApiBill) (p1 : ApiComplaint) : Option (ApiItem × Bool) :=
 (if ((decide (p1.Item < 0)) || (decide ((List.length p0.Items : Int) ≤ p1.Item))) = true then
  some (((ApiItem.mk 0 0 0 0 0), false))
 else
  ck ((0 : Int) ≤ p1.Item ∧ p1.Item < (List.length p0.Items : Int)) (
   some (((ix p0.Items p1.Item), ((decide ((ix p0.Items p1.Item).Kind = 2)) || (decide ((ix p0.Items p1.Item).Kind = 3)))))))
set_option maxRecDepth 20000 in
theorem m_recyclingref57_disputed_ok (N : Nat) (w0 : World) (p0 : ApiBill) (p1 : ApiComplaint) (A_p01 : Option Addr) (n_p01 c_p01 : Nat) (hr_p01 : RdE w0 5 encApiItem A_p01 p0.Items) (hz_p01 : SW A_p01 n_p01 c_p01 (List.length p0.Items)) (r : ApiItem × Bool) (hr : m_recyclingref57_disputed N p0 p1 = some r) :
  Calls Tryz.prog 19 [.agg #[.int .i64 p0.ID, .int .i64 p0.Household, .int .i64 p0.When.From, .int .i64 p0.When.To, .slice A_p01 n_p01 c_p01, .int .i64 p0.Total], .agg #[.int .i64 p1.Bill, .int .i64 p1.Item, .int .i64 p1.At, .int .i64 p1.Kind]].toArray w0 fun x w1 => ∃ u, x = .returned ((fun (r : ApiItem × Bool) (_u : Unit) => .tuple #[.agg #[.int .i64 r.1.Kind, .int .i64 r.1.Ref, .int .i64 r.1.Count, .int .i64 r.1.Price, .int .i64 r.1.Amount], .bool r.2]) r u) ∧ Hs w0 ((fun (_r : ApiItem × Bool) (_u : Unit) => []) r u) w1 := by
 refine calls_cm (n := 34) (R := fun r x w1 => ∃ u, x = .returned ((fun (r : ApiItem × Bool) (_u : Unit) => .tuple #[.agg #[.int .i64 r.1.Kind, .int .i64 r.1.Ref, .int .i64 r.1.Count, .int .i64 r.1.Price, .int .i64 r.1.Amount], .bool r.2]) r u) ∧ Hs w0 ((fun (_r : ApiItem × Bool) (_u : Unit) => []) r u) w1) Tryz.func19 rfl rfl (Nat.le_of_ble_eq_true rfl) ?_ r hr
 unfold m_recyclingref57_disputed
 refine cq ?_
 refine cr ?_
 refine lm_box 2 [.int .i64 _, .int .i64 _, .int .i64 _, .int .i64 _, .slice _ _ _, .int .i64 _] (by kernel_rfl) rfl ?_
 intro b5
 refine lm_box 3 [.int .i64 _, .int .i64 _, .int .i64 _, .int .i64 _] (by kernel_rfl) rfl ?_
 intro b6
 refine lm_alloc 4 [.int .i64 0, .int .i64 0, .int .i64 0, .int .i64 0, .int .i64 0] (v := .agg #[.int .i64 0, .int .i64 0, .int .i64 0, .int .i64 0, .int .i64 0]) (by kernel_rfl) (by kernel_rfl) rfl ?_
 intro b7
 refine lv 5 (by kernel_rfl) (fun w1 c1 => (oa (v := .bool false) rfl)) ?_
 refine ln ?_
 refine xn ?_
 refine cq ?_
 refine cq ?_
 refine cm_cutE [(17, .bool ((decide (p1.Item < 0)) || (decide ((List.length p0.Items : Int) ≤ p1.Item))))] ?_ ?_
 ·skip
  refine wv 7 (by kernel_rfl) (fun w1 c1 => (oF (m := 1) (k := 1) rfl (by kernel_rfl) rfl)) ?_
  refine wv 8 (by kernel_rfl) (fun w1 c1 => (ol rfl (by kernel_rfl) (c1.cell 1 (u := .int .i64 _) rfl rfl))) ?_
  refine wq_dec 9 (by kernel_rfl) (fun w1 c1 => (op_lss rfl rfl)) (fun h8 => ?_) (fun h8 => ?_)
  ·skip
   refine wv 10 (by kernel_rfl) (fun w1 c1 => (om (v := .bool true) rfl)) ?_
   refine wk 11 (by kernel_rfl) ?_
   refine wk 12 (by kernel_rfl) ?_
   refine wk 13 (by kernel_rfl) ?_
   refine wk 14 (by kernel_rfl) ?_
   refine wk 15 (by kernel_rfl) ?_
   refine wk 16 (by kernel_rfl) ?_
   refine wv 17 (by kernel_rfl) (fun w1 c1 => (opt (v := .bool true) rfl rfl)) ?_
   exact leaf_q (sub_out 11 _ rfl (by kernel_rfl) ⟨(congrArg Value.bool (by rw [decide_eq_true h8] <;> rfl)), trivial⟩)
  ·skip
   refine wv 10 (by kernel_rfl) (fun w1 c1 => (om (v := .bool false) rfl)) ?_
   refine wv 11 (by kernel_rfl) (fun w1 c1 => (oF (m := 1) (k := 1) rfl (by kernel_rfl) rfl)) ?_
   refine wv 12 (by kernel_rfl) (fun w1 c1 => (ol rfl (by kernel_rfl) (c1.cell 1 (u := .int .i64 _) rfl rfl))) ?_
   refine wv 13 (by kernel_rfl) (fun w1 c1 => (oF (m := 4) (k := 4) rfl (by kernel_rfl) rfl)) ?_
   refine wv 14 (by kernel_rfl) (fun w1 c1 => (ol rfl (by kernel_rfl) (c1.cell 2 (u := .slice _ _ _) rfl rfl))) ?_
   refine wv 15 (by kernel_rfl) (fun w1 c1 => (op_lenN rfl (by kernel_rfl) hz_p01.2.2)) ?_
   refine wv 16 (by kernel_rfl) (fun w1 c1 => (op_geq rfl rfl)) ?_
   refine wv 17 (by kernel_rfl) (fun w1 c1 => (opf (v := .bool _) rfl rfl)) ?_
   exact leaf_q (sub_out 11 _ rfl (by kernel_rfl) ⟨(congrArg Value.bool (by rw [decide_eq_false h8] <;> rfl)), trivial⟩)
 refine xn ?_
 refine cm_condB (by kernel_rfl) rfl (fun h9 => ?_) (fun h9 => ?_)
 ·skip
  refine cq ?_
  refine cr ?_
  refine lv 18 (by kernel_rfl) (fun w1 c1 => (op_build (z := [.int .i64 0, .int .i64 0, .int .i64 0, .int .i64 0, .int .i64 0]) (tab := [(0, 1), (1, 1), (2, 1), (3, 1), (4, 1)]) (cs := [.int .i64 _, .int .i64 _, .int .i64 _, .int .i64 _, .int .i64 _]) [] (by kernel_rfl) (by kernel_rfl) fillOk_nil rfl)) ?_
  refine lm_storeA 0 [.int .i64 _, .int .i64 _, .int .i64 _, .int .i64 _, .int .i64 _] [_, _, _, _, _] (H' := [blkE _ _ [_, _, _, _, _], _, _]) (by kernel_rfl) rfl rfl (by kernel_rfl) rfl rfl (by kernel_rfl) rfl rfl ?_
  refine lv 5 (by kernel_rfl) (fun w1 c1 => (oa (v := .bool false) rfl)) ?_
  refine ln ?_
  refine xn ?_
  refine cm_ret ?_
  refine xm_thenR ?_
  exact xm_retCT rfl (by kernel_rfl) (show _ = Value.pointer (some ⟨_, 0, none⟩) from rfl) (by kernel_rfl) (fun w1 c1 => c1.cells 0 (ds := [.int .i64 _, .int .i64 _, .int .i64 _, .int .i64 _, .int .i64 _]) rfl rfl) (by kernel_rfl) (show _ = Value.bool false from rfl) fun w1 c1 => ⟨(), rfl, hsub [] (by kernel_rfl) rfl w1 c1⟩
 ·skip
  refine cm_skip ?_
  refine xn ?_
  refine cq ?_
  refine cr ?_
  refine lv 19 (by kernel_rfl) (fun w1 c1 => (oF (m := 4) (k := 4) rfl (by kernel_rfl) rfl)) ?_
  refine lv 20 (by kernel_rfl) (fun w1 c1 => (ol rfl (by kernel_rfl) (c1.cell 2 (u := .slice _ _ _) rfl rfl))) ?_
  refine lv 21 (by kernel_rfl) (fun w1 c1 => (oF (m := 1) (k := 1) rfl (by kernel_rfl) rfl)) ?_
  refine lv 22 (by kernel_rfl) (fun w1 c1 => (ol rfl (by kernel_rfl) (c1.cell 1 (u := .int .i64 _) rfl rfl))) ?_
  refine lm_ck (fun h10 => ?_)
  refine lv 23 (by kernel_rfl) (fun w1 c1 => (op_indexA 5 rfl rfl (by kernel_rfl) ((hr_p01.old c1).addr h10.1 h10.2) hz_p01.2.2 h10.1 h10.2)) ?_
  refine lv 24 (by kernel_rfl) (fun w1 c1 => (op_loadR [.int .i64 ((ix p0.Items p1.Item).Kind), .int .i64 ((ix p0.Items p1.Item).Ref), .int .i64 ((ix p0.Items p1.Item).Count), .int .i64 ((ix p0.Items p1.Item).Price), .int .i64 ((ix p0.Items p1.Item).Amount)] rfl (by kernel_rfl) ((hr_p01.old c1).row h10.1 h10.2))) ?_
  refine lm_alloc 6 [.int .i64 0, .int .i64 0, .int .i64 0, .int .i64 0, .int .i64 0] (v := .agg #[.int .i64 0, .int .i64 0, .int .i64 0, .int .i64 0, .int .i64 0]) (by kernel_rfl) (by kernel_rfl) rfl ?_
  intro b11
  refine lm_storeA 0 [.int .i64 _, .int .i64 _, .int .i64 _, .int .i64 _, .int .i64 _] [_, _, _, _, _] (H' := [blkE _ _ [_, _, _, _, _], _, _, _]) (by kernel_rfl) rfl rfl (by kernel_rfl) rfl rfl (by kernel_rfl) rfl rfl ?_
  refine ln ?_
  refine xn ?_
  refine cq ?_
  refine cm_held (ξ := Unit) (fun u19 => [(4, .pointer (some ⟨b7, 0, none⟩)), (5, .bool ((decide ((ix p0.Items p1.Item).Kind = 2)) || (decide ((ix p0.Items p1.Item).Kind = 3))))]) (fun u19 => [blkE b7 66 [.int .i64 ((ix p0.Items p1.Item).Kind), .int .i64 ((ix p0.Items p1.Item).Ref), .int .i64 ((ix p0.Items p1.Item).Count), .int .i64 ((ix p0.Items p1.Item).Price), .int .i64 ((ix p0.Items p1.Item).Amount)]]) [blkE b11 66 [.int .i64 ((ix p0.Items p1.Item).Kind), .int .i64 ((ix p0.Items p1.Item).Ref), .int .i64 ((ix p0.Items p1.Item).Count), .int .i64 ((ix p0.Items p1.Item).Price), .int .i64 ((ix p0.Items p1.Item).Amount)], blkE b6 35 [.int .i64 p1.Bill, .int .i64 p1.Item, .int .i64 p1.At, .int .i64 p1.Kind], blkE b5 33 [.int .i64 p0.ID, .int .i64 p0.Household, .int .i64 p0.When.From, .int .i64 p0.When.To, .slice A_p01 n_p01 c_p01, .int .i64 p0.Total]] 11 (by kernel_rfl) (by rfl) (hsub [0, 2, 3] (by kernel_rfl) (by rfl)) ?_ ?_
  ·intro w21 c22
   refine wh_take 0 25 rfl (by kernel_rfl) (by kernel_rfl) (fun w2 c2 => (op_loadR [.int .i64 _, .int .i64 _, .int .i64 _, .int .i64 _, .int .i64 _] rfl (by kernel_rfl) (c2.cells 0 rfl rfl))) (hsub [0, 2, 3] (by kernel_rfl) rfl _ c22) ?_
   refine wh_take 1 26 rfl (by kernel_rfl) (by kernel_rfl) (fun w2 c2 => (oF (m := 0) (k := 0) rfl (by kernel_rfl) rfl)) (hsub [0, 2, 3] (by kernel_rfl) rfl _ c22) ?_
   refine wh_take 2 27 rfl (by kernel_rfl) (by kernel_rfl) (fun w2 c2 => (ol rfl (by kernel_rfl) (c2.cell 0 (u := .int .i64 _) rfl rfl))) (hsub [0, 2, 3] (by kernel_rfl) rfl _ c22) ?_
   refine wh_dec 3 28 rfl (by kernel_rfl) (by kernel_rfl) (fun w2 c2 => (op_eql rfl rfl)) (hsub [0, 2, 3] (by kernel_rfl) rfl _ c22) (fun h23 => ?_) (fun h23 => ?_)
   ·skip
    refine wh_take 4 29 rfl (by kernel_rfl) (by kernel_rfl) (fun w2 c2 => (om (v := .bool true) rfl)) (hsub [0, 2, 3] (by kernel_rfl) rfl _ c22) ?_
    refine wh_skip 5 30 rfl (by kernel_rfl) (by kernel_rfl) (hsub [0, 2, 3] (by kernel_rfl) rfl _ c22) ?_
    refine wh_skip 6 31 rfl (by kernel_rfl) (by kernel_rfl) (hsub [0, 2, 3] (by kernel_rfl) rfl _ c22) ?_
    refine wh_skip 7 32 rfl (by kernel_rfl) (by kernel_rfl) (hsub [0, 2, 3] (by kernel_rfl) rfl _ c22) ?_
    refine wh_take 8 33 rfl (by kernel_rfl) (by kernel_rfl) (fun w2 c2 => (opt (v := .bool true) rfl rfl)) (hsub [0, 2, 3] (by kernel_rfl) rfl _ c22) ?_
    refine wh_ready [9] (by kernel_rfl) rfl ⟨?_, trivial⟩
    refine ws_storeA 1 [.int .i64 _, .int .i64 _, .int .i64 _, .int .i64 _, .int .i64 _] [_, _, _, _, _] rfl (by kernel_rfl) rfl rfl (by kernel_rfl) rfl rfl (by kernel_rfl) rfl (H' := [_, blkE _ _ [_, _, _, _, _], _, _]) rfl c22 ?_
    intro w24 c25
    refine ⟨(hsub [0, 2, 3] (by kernel_rfl) rfl _ c25), ?_⟩
    refine wh_take 10 5 rfl (by kernel_rfl) (by kernel_rfl) (fun w2 c2 => (oa (v := .bool true) rfl)) (hsub [0, 2, 3] (by kernel_rfl) rfl _ c25) ?_
    exact wh_done () (by kernel_rfl) (sc (by kernel_rfl) rfl (sc (by kernel_rfl) (congrArg Value.bool (by rw [decide_eq_true h23] <;> rfl)) sub_nil)) (hsub [1] (by kernel_rfl) rfl _ c25)
   ·skip
    refine wh_take 4 29 rfl (by kernel_rfl) (by kernel_rfl) (fun w2 c2 => (om (v := .bool false) rfl)) (hsub [0, 2, 3] (by kernel_rfl) rfl _ c22) ?_
    refine wh_take 5 30 rfl (by kernel_rfl) (by kernel_rfl) (fun w2 c2 => (oF (m := 0) (k := 0) rfl (by kernel_rfl) rfl)) (hsub [0, 2, 3] (by kernel_rfl) rfl _ c22) ?_
    refine wh_take 6 31 rfl (by kernel_rfl) (by kernel_rfl) (fun w2 c2 => (ol rfl (by kernel_rfl) (c2.cell 0 (u := .int .i64 _) rfl rfl))) (hsub [0, 2, 3] (by kernel_rfl) rfl _ c22) ?_
    refine wh_take 7 32 rfl (by kernel_rfl) (by kernel_rfl) (fun w2 c2 => (op_eql rfl rfl)) (hsub [0, 2, 3] (by kernel_rfl) rfl _ c22) ?_
    refine wh_take 8 33 rfl (by kernel_rfl) (by kernel_rfl) (fun w2 c2 => (opf (v := .bool _) rfl rfl)) (hsub [0, 2, 3] (by kernel_rfl) rfl _ c22) ?_
    refine wh_ready [9] (by kernel_rfl) rfl ⟨?_, trivial⟩
    refine ws_storeA 1 [.int .i64 _, .int .i64 _, .int .i64 _, .int .i64 _, .int .i64 _] [_, _, _, _, _] rfl (by kernel_rfl) rfl rfl (by kernel_rfl) rfl rfl (by kernel_rfl) rfl (H' := [_, blkE _ _ [_, _, _, _, _], _, _]) rfl c22 ?_
    intro w26 c27
    refine ⟨(hsub [0, 2, 3] (by kernel_rfl) rfl _ c27), ?_⟩
    refine wh_take 10 5 rfl (by kernel_rfl) (by kernel_rfl) (fun w2 c2 => (oa (v := .bool _) rfl)) (hsub [0, 2, 3] (by kernel_rfl) rfl _ c27) ?_
    exact wh_done () (by kernel_rfl) (sc (by kernel_rfl) rfl (sc (by kernel_rfl) (congrArg Value.bool (by rw [decide_eq_false h23] <;> rfl)) sub_nil)) (hsub [1] (by kernel_rfl) rfl _ c27)
  intro u19
  refine xn ?_
  refine cm_ret ?_
  exact xm_retCT rfl (by kernel_rfl) (show _ = Value.pointer (some ⟨_, 0, none⟩) from rfl) (by kernel_rfl) (fun w1 c1 => c1.cells 0 (ds := [.int .i64 _, .int .i64 _, .int .i64 _, .int .i64 _, .int .i64 _]) rfl rfl) (by kernel_rfl) (show _ = Value.bool _ from rfl) fun w1 c1 => ⟨(), rfl, hsub [] (by kernel_rfl) rfl w1 c1⟩
/-- recyclingref57.record -/
def m_recyclingref57_record (N : Nat) (p0 : (List ApiEmptying)) (p1 : Int) : Option (Int) :=
 (andThen
  (loopM (fun (s37 : Int) =>
   (if s37 < (List.length p0 : Int) then
    ck ((0 : Int) ≤ s37 ∧ s37 < (List.length p0 : Int)) (
     (if (ix p0 s37).ID = p1 then
      some (.done (.done (s37)))
     else
      ck (I64 (s37 + (1 : Int))) (
       some (.next (s37 + (1 : Int))))))
   else
    some (.done (.next ())))) N (0 : Int))
 fun (_s23 : Unit) =>
  some ((-1 : Int)))
set_option maxRecDepth 20000 in
theorem m_recyclingref57_record_ok (N : Nat) (w0 : World) (p0 : (List ApiEmptying)) (p1 : Int) (A_p0 : Option Addr) (n_p0 c_p0 : Nat) (hr_p0 : RdE w0 7 encApiEmptying A_p0 p0) (hz_p0 : SW A_p0 n_p0 c_p0 (List.length p0)) (r : Int) (hr : m_recyclingref57_record N p0 p1 = some r) :
  Calls Tryz.prog 21 [.slice A_p0 n_p0 c_p0, .int .i64 p1].toArray w0 fun x w1 => ∃ u, x = .returned ((fun (r : Int) (_u : Unit) => .int .i64 r) r u) ∧ Hs w0 ((fun (_r : Int) (_u : Unit) => []) r u) w1 := by
 refine calls_cm (n := 20) (R := fun r x w1 => ∃ u, x = .returned ((fun (r : Int) (_u : Unit) => .int .i64 r) r u) ∧ Hs w0 ((fun (_r : Int) (_u : Unit) => []) r u) w1) Tryz.func21 rfl rfl (Nat.le_of_ble_eq_true rfl) ?_ r hr
 unfold m_recyclingref57_record
 refine cq ?_
 refine cr ?_
 refine lv 4 (by kernel_rfl) (fun w1 c1 => (oa (v := .int .i64 _) rfl)) ?_
 refine ln ?_
 refine xn ?_
 refine cm_join (σ := Unit) (ξ := Unit) (fun s23 u24 => []) (fun s23 u24 => []) ?_ ?_
 ·skip
  refine cq ?_
  refine cr ?_
  refine lv 5 (by kernel_rfl) (fun w1 c1 => (oa (v := .int .i64 _) rfl)) ?_
  refine ln ?_
  refine xn ?_
  refine cm_block ?_
  refine cm_loop (σ := Int) (ξ := Unit) (fun s37 u38 => [(0, .slice A_p0 n_p0 c_p0), (1, .int .i64 p1), (5, .int .i64 s37)]) (fun s37 u38 => []) () ?_ ?_ ?_
  ·exact (sc (by kernel_rfl) rfl (sc (by kernel_rfl) rfl (sc (by kernel_rfl) rfl sub_nil)))
  ·exact hsub [] (by kernel_rfl) rfl
  intro s37 u38
  refine cq ?_
  refine cq ?_
  refine cr ?_
  refine lv 6 (by kernel_rfl) (fun w1 c1 => (om (v := .int .i64 _) rfl)) ?_
  refine lv 7 (by kernel_rfl) (fun w1 c1 => (om (v := .slice _ _ _) rfl)) ?_
  refine lv 8 (by kernel_rfl) (fun w1 c1 => (op_lenN rfl (by kernel_rfl) hz_p0.2.2)) ?_
  refine lv 9 (by kernel_rfl) (fun w1 c1 => (op_lss rfl rfl)) ?_
  refine ln ?_
  refine xn ?_
  refine cm_cond (by kernel_rfl) rfl (fun h39 => ?_) (fun h39 => ?_)
  ·skip
   refine cm_skip ?_
   refine xn ?_
   refine cq ?_
   refine cm_block ?_
   refine cq ?_
   refine cr ?_
   refine lv 12 (by kernel_rfl) (fun w1 c1 => (om (v := .slice _ _ _) rfl)) ?_
   refine lv 13 (by kernel_rfl) (fun w1 c1 => (om (v := .int .i64 _) rfl)) ?_
   refine lm_ck (fun h40 => ?_)
   refine lv 14 (by kernel_rfl) (fun w1 c1 => (op_indexA 7 rfl rfl (by kernel_rfl) ((hr_p0.old c1).addr h40.1 h40.2) hz_p0.2.2 h40.1 h40.2)) ?_
   refine lv 15 (by kernel_rfl) (fun w1 c1 => (op_field0 rfl (by kernel_rfl))) ?_
   refine lv 16 (by kernel_rfl) (fun w1 c1 => (ol (v := .int .i64 ((ix p0 s37).ID)) rfl (by kernel_rfl) ((hr_p0.old c1).cell0 h40.1 h40.2 rfl))) ?_
   refine lv 17 (by kernel_rfl) (fun w1 c1 => (om (v := .int .i64 _) rfl)) ?_
   refine lv 18 (by kernel_rfl) (fun w1 c1 => (op_eql rfl rfl)) ?_
   refine ln ?_
   refine xn ?_
   refine cm_cond (by kernel_rfl) rfl (fun h41 => ?_) (fun h41 => ?_)
   ·skip
    refine cq ?_
    refine cr ?_
    refine lv 19 (by kernel_rfl) (fun w1 c1 => (om (v := .int .i64 _) rfl)) ?_
    refine lv 4 (by kernel_rfl) (fun w1 c1 => (oa (v := .int .i64 _) rfl)) ?_
    refine ln ?_
    refine xn ?_
    refine cm_ret ?_
    refine xm_inR ?_
    refine xm_thenR ?_
    refine xm_lret ?_
    refine xm_inR ?_
    refine xm_lret ?_
    exact xm_retT rfl (by kernel_rfl) (show _ = Value.int .i64 _ from rfl) fun w1 c1 => ⟨(), rfl, hsub [] (by kernel_rfl) rfl w1 c1⟩
   ·skip
    refine cm_skip ?_
    refine xm_inN ?_
    refine xn ?_
    refine cr ?_
    refine lv 10 (by kernel_rfl) (fun w1 c1 => (om (v := .int .i64 _) rfl)) ?_
    refine lm_ck (fun h42 => ?_)
    refine lv 11 (by kernel_rfl) (fun w1 c1 => (op_add rfl rfl h42)) ?_
    refine lv 5 (by kernel_rfl) (fun w1 c1 => (oa (v := .int .i64 _) rfl)) ?_
    refine ln ?_
    exact xm_lnext () (sc (by kernel_rfl) rfl (sc (by kernel_rfl) rfl (sc (by kernel_rfl) rfl sub_nil))) (hsub [] (by kernel_rfl) rfl)
  ·skip
   refine cm_exit ?_
   refine xm_thenE ?_
   refine xm_lexit ?_
   refine xm_here ?_
   exact xm_lnext () sub_nil (hsub [] (by kernel_rfl) rfl)
 intro s23 u24
 refine cq ?_
 refine cr ?_
 refine lv 4 (by kernel_rfl) (fun w1 c1 => (oa (v := .int .i64 _) rfl)) ?_
 refine ln ?_
 refine xn ?_
 refine cm_ret ?_
 exact xm_retT rfl (by kernel_rfl) (show _ = Value.int .i64 _ from rfl) fun w1 c1 => ⟨(), rfl, hsub [] (by kernel_rfl) rfl w1 c1⟩
/-- recyclingref57.counts -/
def m_recyclingref57_counts (N : Nat) (p0 : ApiAccount) (p1 : Int) : Option (Bool) :=
 Option.bind (m_recyclingref18_Counts N p0.Emptyings p0.Gap) fun r6 => (andThen
  (loopM (fun (s40 : Int) =>
   (if s40 < (List.length r6.1 : Int) then
    ck ((0 : Int) ≤ s40 ∧ s40 < (List.length r6.1 : Int)) (
     (if (ix r6.1 s40) = p1 then
      some (.done (.done (true)))
     else
      ck (I64 (s40 + (1 : Int))) (
       some (.next (s40 + (1 : Int))))))
   else
    some (.done (.next ())))) N (0 : Int))
 fun (_s26 : Unit) =>
  some (false))
set_option maxRecDepth 20000 in
theorem m_recyclingref57_counts_ok (N : Nat) (w0 : World) (p0 : ApiAccount) (p1 : Int) (A_p01 : Option Addr) (n_p01 c_p01 : Nat) (A_p02 : Option Addr) (n_p02 c_p02 : Nat) (A_p03 : Option Addr) (n_p03 c_p03 : Nat) (A_p04 : Option Addr) (n_p04 c_p04 : Nat) (A_p05 : Option Addr) (n_p05 c_p05 : Nat) (_hr_p01 : RdE w0 2 encApiHousehold A_p01 p0.Households) (_hz_p01 : SW A_p01 n_p01 c_p01 (List.length p0.Households)) (_hr_p02 : RdE w0 5 encApiContainer A_p02 p0.Containers) (_hz_p02 : SW A_p02 n_p02 c_p02 (List.length p0.Containers)) (_hr_p03 : RdE w0 4 encApiAssign A_p03 p0.Assigns) (_hz_p03 : SW A_p03 n_p03 c_p03 (List.length p0.Assigns)) (hr_p04 : RdE w0 7 encApiEmptying A_p04 p0.Emptyings) (hz_p04 : SW A_p04 n_p04 c_p04 (List.length p0.Emptyings)) (_hr_p05 : RdE w0 5 encApiTariff A_p05 p0.Tariffs) (_hz_p05 : SW A_p05 n_p05 c_p05 (List.length p0.Tariffs)) (r : Bool) (hr : m_recyclingref57_counts N p0 p1 = some r) :
  Calls Tryz.prog 38 [.agg #[.slice A_p01 n_p01 c_p01, .slice A_p02 n_p02 c_p02, .slice A_p03 n_p03 c_p03, .slice A_p04 n_p04 c_p04, .slice A_p05 n_p05 c_p05, .int .i64 p0.Gap], .int .i64 p1].toArray w0 fun x w1 => ∃ u, x = .returned ((fun (r : Bool) (_u : Unit) => .bool r) r u) ∧ Hs w0 ((fun (_r : Bool) (_u : Unit) => []) r u) w1 := by
 refine calls_cm (n := 28) (R := fun r x w1 => ∃ u, x = .returned ((fun (r : Bool) (_u : Unit) => .bool r) r u) ∧ Hs w0 ((fun (_r : Bool) (_u : Unit) => []) r u) w1) Tryz.func38 rfl rfl (Nat.le_of_ble_eq_true rfl) ?_ r hr
 unfold m_recyclingref57_counts
 refine cq ?_
 refine cr ?_
 refine lm_box 2 [.slice _ _ _, .slice _ _ _, .slice _ _ _, .slice _ _ _, .slice _ _ _, .int .i64 _] (by kernel_rfl) rfl ?_
 intro b5
 refine lv 4 (by kernel_rfl) (fun w1 c1 => (oa (v := .bool false) rfl)) ?_
 refine ln ?_
 refine xn ?_
 refine cq ?_
 refine cr ?_
 refine lv 9 (by kernel_rfl) (fun w1 c1 => (oF (m := 3) (k := 3) rfl (by kernel_rfl) rfl)) ?_
 refine lv 10 (by kernel_rfl) (fun w1 c1 => (ol rfl (by kernel_rfl) (c1.cell 0 (u := .slice _ _ _) rfl rfl))) ?_
 refine lv 11 (by kernel_rfl) (fun w1 c1 => (oF (m := 5) (k := 5) rfl (by kernel_rfl) rfl)) ?_
 refine lv 12 (by kernel_rfl) (fun w1 c1 => (ol rfl (by kernel_rfl) (c1.cell 0 (u := .int .i64 _) rfl rfl))) ?_
 refine lm_call 13 (V := (fun (r : (List Int) × Int) (u : (Option Addr) × Nat × Nat) => .tuple #[.slice u.1 u.2.1 u.2.2, .int .i64 r.2])) (HR := (fun (r : (List Int) × Int) (u : (Option Addr) × Nat × Nat) => [ownE 3 1 encI u.1 u.2.1 u.2.2 r.1])) (by kernel_rfl) (fun w1 => op_call (by kernel_rfl)) (fun r1 hr1 w1 c1 => m_recyclingref18_Counts_ok N w1 p0.Emptyings p0.Gap A_p04 n_p04 c_p04 (hr_p04.old c1) hz_p04 r1 hr1) ?_
 intro r6 u7
 refine lv 8 (by kernel_rfl) (fun w1 c1 => (om (v := .tuple _) rfl)) ?_
 refine lv 14 (by kernel_rfl) (fun w1 c1 => (op_extract (v := .slice _ _ _) rfl rfl)) ?_
 refine lv 15 (by kernel_rfl) (fun w1 c1 => (op_extract (v := .int .i64 _) rfl rfl)) ?_
 refine lv 5 (by kernel_rfl) (fun w1 c1 => (oa (v := .slice _ _ _) rfl)) ?_
 refine lv 6 (by kernel_rfl) (fun w1 c1 => (oa (v := .int .i64 _) rfl)) ?_
 refine ln ?_
 refine xn ?_
 refine cm_join (σ := Unit) (ξ := Unit) (fun s26 u27 => []) (fun s26 u27 => []) ?_ ?_
 ·skip
  refine cq ?_
  refine cr ?_
  refine lv 7 (by kernel_rfl) (fun w1 c1 => (oa (v := .int .i64 _) rfl)) ?_
  refine ln ?_
  refine xn ?_
  refine cm_block ?_
  refine cm_loop (σ := Int) (ξ := Unit) (fun s40 u41 => [(1, .int .i64 p1), (5, .slice u7.1 u7.2.1 u7.2.2), (7, .int .i64 s40)]) (fun s40 u41 => [ownE 3 1 encI u7.1 u7.2.1 u7.2.2 r6.1]) () ?_ ?_ ?_
  ·exact (sc (by kernel_rfl) rfl (sc (by kernel_rfl) rfl (sc (by kernel_rfl) rfl sub_nil)))
  ·exact hsub [0] (by kernel_rfl) rfl
  intro s40 u41
  refine cq ?_
  refine cq ?_
  refine cr ?_
  refine lv 16 (by kernel_rfl) (fun w1 c1 => (om (v := .int .i64 _) rfl)) ?_
  refine lv 17 (by kernel_rfl) (fun w1 c1 => (om (v := .slice _ _ _) rfl)) ?_
  refine lv 18 (by kernel_rfl) (fun w1 c1 => (op_lenN rfl (by kernel_rfl) (c1.ownZ 0 rfl).2.2)) ?_
  refine lv 19 (by kernel_rfl) (fun w1 c1 => (op_lss rfl rfl)) ?_
  refine ln ?_
  refine xn ?_
  refine cm_cond (by kernel_rfl) rfl (fun h42 => ?_) (fun h42 => ?_)
  ·skip
   refine cm_skip ?_
   refine xn ?_
   refine cq ?_
   refine cm_block ?_
   refine cq ?_
   refine cr ?_
   refine lv 22 (by kernel_rfl) (fun w1 c1 => (om (v := .slice _ _ _) rfl)) ?_
   refine lv 23 (by kernel_rfl) (fun w1 c1 => (om (v := .int .i64 _) rfl)) ?_
   refine lm_ck (fun h43 => ?_)
   refine lv 24 (by kernel_rfl) (fun w1 c1 => (op_indexA 1 rfl rfl (by kernel_rfl) ((c1.own 0 rfl encI_len).addr h43.1 h43.2) (c1.ownZ 0 rfl).2.2 h43.1 h43.2)) ?_
   refine lv 25 (by kernel_rfl) (fun w1 c1 => (ol (v := .int .i64 (ix r6.1 s40)) rfl (by kernel_rfl) ((c1.own 0 rfl encI_len).cell0 h43.1 h43.2 rfl))) ?_
   refine lv 26 (by kernel_rfl) (fun w1 c1 => (om (v := .int .i64 _) rfl)) ?_
   refine lv 27 (by kernel_rfl) (fun w1 c1 => (op_eql rfl rfl)) ?_
   refine ln ?_
   refine xn ?_
   refine cm_cond (by kernel_rfl) rfl (fun h44 => ?_) (fun h44 => ?_)
   ·skip
    refine cq ?_
    refine cr ?_
    refine lv 4 (by kernel_rfl) (fun w1 c1 => (oa (v := .bool true) rfl)) ?_
    refine ln ?_
    refine xn ?_
    refine cm_ret ?_
    refine xm_inR ?_
    refine xm_thenR ?_
    refine xm_lret ?_
    refine xm_inR ?_
    refine xm_lret ?_
    exact xm_retT rfl (by kernel_rfl) (show _ = Value.bool true from rfl) fun w1 c1 => ⟨(), rfl, hsub [] (by kernel_rfl) rfl w1 c1⟩
   ·skip
    refine cm_skip ?_
    refine xm_inN ?_
    refine xn ?_
    refine cr ?_
    refine lv 20 (by kernel_rfl) (fun w1 c1 => (om (v := .int .i64 _) rfl)) ?_
    refine lm_ck (fun h45 => ?_)
    refine lv 21 (by kernel_rfl) (fun w1 c1 => (op_add rfl rfl h45)) ?_
    refine lv 7 (by kernel_rfl) (fun w1 c1 => (oa (v := .int .i64 _) rfl)) ?_
    refine ln ?_
    exact xm_lnext () (sc (by kernel_rfl) rfl (sc (by kernel_rfl) rfl (sc (by kernel_rfl) rfl sub_nil))) (hsub [0] (by kernel_rfl) rfl)
  ·skip
   refine cm_exit ?_
   refine xm_thenE ?_
   refine xm_lexit ?_
   refine xm_here ?_
   exact xm_lnext () sub_nil (hsub [] (by kernel_rfl) rfl)
 intro s26 u27
 refine cq ?_
 refine cr ?_
 refine lv 4 (by kernel_rfl) (fun w1 c1 => (oa (v := .bool false) rfl)) ?_
 refine ln ?_
 refine xn ?_
 refine cm_ret ?_
 exact xm_retT rfl (by kernel_rfl) (show _ = Value.bool false from rfl) fun w1 c1 => ⟨(), rfl, hsub [] (by kernel_rfl) rfl w1 c1⟩
/-- recyclingref57.weight -/
def m_recyclingref57_weight (N : Nat) (p0 : ApiTariff) (p1 : ApiEmptying) : Option (Int) :=
 Option.bind (m_recyclingref53_Items N p0 p1) fun r7 => (andThen
  (loopM (fun (s71 : Int × Int) =>
   (if s71.2 < (List.length r7.1 : Int) then
    (andThen
     (ck ((0 : Int) ≤ s71.2 ∧ s71.2 < (List.length r7.1 : Int)) (
      (if (ix r7.1 s71.2).Kind = 3 then
       ck ((0 : Int) ≤ s71.2 ∧ s71.2 < (List.length r7.1 : Int)) (
        some (.next ((ix r7.1 s71.2).Amount)))
      else
       some (.next s71.1))))
    fun (s77 : Int) =>
     ck (I64 (s71.2 + (1 : Int))) (
      some (.next (s77, (s71.2 + (1 : Int))))))
   else
    some (.done (.next s71.1)))) N ((0 : Int), (0 : Int)))
 fun (s45 : Int) =>
  some (s45))
set_option maxRecDepth 20000 in
theorem m_recyclingref57_weight_ok (N : Nat) (w0 : World) (p0 : ApiTariff) (p1 : ApiEmptying)   (r : Int) (hr : m_recyclingref57_weight N p0 p1 = some r) :
  Calls Tryz.prog 39 [.agg #[.int .i64 p0.From, .int .i64 p0.Base, .int .i64 p0.Empty, .int .i64 p0.Kilo, .int .i64 p0.Free], .agg #[.int .i64 p1.ID, .int .i64 p1.Container, .int .i64 p1.Vehicle, .int .i64 p1.At, .int .i64 p1.Mass.Lo, .int .i64 p1.Mass.Hi, .bool p1.Void]].toArray w0 fun x w1 => ∃ u, x = .returned ((fun (r : Int) (_u : Unit) => .int .i64 r) r u) ∧ Hs w0 ((fun (_r : Int) (_u : Unit) => []) r u) w1 := by
 refine calls_cm (n := 33) (R := fun r x w1 => ∃ u, x = .returned ((fun (r : Int) (_u : Unit) => .int .i64 r) r u) ∧ Hs w0 ((fun (_r : Int) (_u : Unit) => []) r u) w1) Tryz.func39 rfl rfl (Nat.le_of_ble_eq_true rfl) ?_ r hr
 unfold m_recyclingref57_weight
 refine cq ?_
 refine cr ?_
 refine lm_box 2 [.int .i64 _, .int .i64 _, .int .i64 _, .int .i64 _, .int .i64 _] (by kernel_rfl) rfl ?_
 intro b5
 refine lm_box 3 [.int .i64 _, .int .i64 _, .int .i64 _, .int .i64 _, .int .i64 _, .int .i64 _, .bool _] (by kernel_rfl) rfl ?_
 intro b6
 refine lv 4 (by kernel_rfl) (fun w1 c1 => (oa (v := .int .i64 _) rfl)) ?_
 refine ln ?_
 refine xn ?_
 refine cq ?_
 refine cr ?_
 refine lv 10 (by kernel_rfl) (fun w1 c1 => (op_loadR [.int .i64 _, .int .i64 _, .int .i64 _, .int .i64 _, .int .i64 _] rfl (by kernel_rfl) (c1.cells 1 rfl rfl))) ?_
 refine lv 11 (by kernel_rfl) (fun w1 c1 => (op_loadR [.int .i64 _, .int .i64 _, .int .i64 _, .int .i64 _, .int .i64 _, .int .i64 _, .bool _] rfl (by kernel_rfl) (c1.cells 0 rfl rfl))) ?_
 refine lm_call 12 (V := (fun (r : (List ApiItem) × Int) (u : (Option Addr) × Nat × Nat) => .tuple #[.slice u.1 u.2.1 u.2.2, .int .i64 r.2])) (HR := (fun (r : (List ApiItem) × Int) (u : (Option Addr) × Nat × Nat) => [ownE 66 5 encApiItem u.1 u.2.1 u.2.2 r.1])) (by kernel_rfl) (fun w1 => op_call (by kernel_rfl)) (fun r1 hr1 w1 c1 => m_recyclingref53_Items_ok N w1 p0 p1  r1 hr1) ?_
 intro r7 u8
 refine lv 9 (by kernel_rfl) (fun w1 c1 => (om (v := .tuple _) rfl)) ?_
 refine lv 13 (by kernel_rfl) (fun w1 c1 => (op_extract (v := .slice _ _ _) rfl rfl)) ?_
 refine lv 14 (by kernel_rfl) (fun w1 c1 => (op_extract (v := .int .i64 _) rfl rfl)) ?_
 refine lv 5 (by kernel_rfl) (fun w1 c1 => (oa (v := .slice _ _ _) rfl)) ?_
 refine lv 6 (by kernel_rfl) (fun w1 c1 => (oa (v := .int .i64 _) rfl)) ?_
 refine ln ?_
 refine xn ?_
 refine cq ?_
 refine cr ?_
 refine lv 7 (by kernel_rfl) (fun w1 c1 => (oa (v := .int .i64 _) rfl)) ?_
 refine ln ?_
 refine xn ?_
 refine cm_join (σ := Int) (ξ := Unit) (fun s45 u46 => [(7, .int .i64 s45)]) (fun s45 u46 => []) ?_ ?_
 ·skip
  refine cq ?_
  refine cr ?_
  refine lv 8 (by kernel_rfl) (fun w1 c1 => (oa (v := .int .i64 _) rfl)) ?_
  refine ln ?_
  refine xn ?_
  refine cm_block ?_
  refine cm_loop (σ := Int × Int) (ξ := Unit) (fun s71 u72 => [(5, .slice u8.1 u8.2.1 u8.2.2), (7, .int .i64 s71.1), (8, .int .i64 s71.2)]) (fun s71 u72 => [ownE 66 5 encApiItem u8.1 u8.2.1 u8.2.2 r7.1]) () ?_ ?_ ?_
  ·exact (sc (by kernel_rfl) rfl (sc (by kernel_rfl) rfl (sc (by kernel_rfl) rfl sub_nil)))
  ·exact hsub [0] (by kernel_rfl) rfl
  intro s71 u72
  refine cq ?_
  refine cq ?_
  refine cr ?_
  refine lv 15 (by kernel_rfl) (fun w1 c1 => (om (v := .int .i64 _) rfl)) ?_
  refine lv 16 (by kernel_rfl) (fun w1 c1 => (om (v := .slice _ _ _) rfl)) ?_
  refine lv 17 (by kernel_rfl) (fun w1 c1 => (op_lenN rfl (by kernel_rfl) (c1.ownZ 0 rfl).2.2)) ?_
  refine lv 18 (by kernel_rfl) (fun w1 c1 => (op_lss rfl rfl)) ?_
  refine ln ?_
  refine xn ?_
  refine cm_cond (by kernel_rfl) rfl (fun h73 => ?_) (fun h73 => ?_)
  ·skip
   refine cm_skip ?_
   refine xn ?_
   refine cm_join (σ := Int) (ξ := Unit) (fun s77 u78 => [(5, .slice u8.1 u8.2.1 u8.2.2), (7, .int .i64 s77), (8, .int .i64 s71.2)]) (fun s77 u78 => [ownE 66 5 encApiItem u8.1 u8.2.1 u8.2.2 r7.1]) ?_ ?_
   ·skip
    refine cm_block ?_
    refine cq ?_
    refine cr ?_
    refine lv 21 (by kernel_rfl) (fun w1 c1 => (om (v := .slice _ _ _) rfl)) ?_
    refine lv 22 (by kernel_rfl) (fun w1 c1 => (om (v := .int .i64 _) rfl)) ?_
    refine lm_ck (fun h79 => ?_)
    refine lv 23 (by kernel_rfl) (fun w1 c1 => (op_indexA 5 rfl rfl (by kernel_rfl) ((c1.own 0 rfl encApiItem_len).addr h79.1 h79.2) (c1.ownZ 0 rfl).2.2 h79.1 h79.2)) ?_
    refine lv 24 (by kernel_rfl) (fun w1 c1 => (op_field0 rfl (by kernel_rfl))) ?_
    refine lv 25 (by kernel_rfl) (fun w1 c1 => (ol (v := .int .i64 ((ix r7.1 s71.2).Kind)) rfl (by kernel_rfl) ((c1.own 0 rfl encApiItem_len).cell0 h79.1 h79.2 rfl))) ?_
    refine lv 26 (by kernel_rfl) (fun w1 c1 => (op_eql rfl rfl)) ?_
    refine ln ?_
    refine xn ?_
    refine cm_cond (by kernel_rfl) rfl (fun h80 => ?_) (fun h80 => ?_)
    ·skip
     refine cr ?_
     refine lv 27 (by kernel_rfl) (fun w1 c1 => (om (v := .slice _ _ _) rfl)) ?_
     refine lv 28 (by kernel_rfl) (fun w1 c1 => (om (v := .int .i64 _) rfl)) ?_
     refine lm_ck (fun h81 => ?_)
     refine lv 29 (by kernel_rfl) (fun w1 c1 => (op_indexA 5 rfl rfl (by kernel_rfl) ((c1.own 0 rfl encApiItem_len).addr h81.1 h81.2) (c1.ownZ 0 rfl).2.2 h81.1 h81.2)) ?_
     refine lv 30 (by kernel_rfl) (fun w1 c1 => (op_field (m := 4) rfl (by kernel_rfl))) ?_
     refine lv 31 (by kernel_rfl) (fun w1 c1 => (ol (v := .int .i64 ((ix r7.1 s71.2).Amount)) rfl (by kernel_rfl) ((c1.own 0 rfl encApiItem_len).cell (j := 4) h81.1 h81.2 rfl))) ?_
     refine lv 7 (by kernel_rfl) (fun w1 c1 => (oa (v := .int .i64 _) rfl)) ?_
     refine ln ?_
     refine xm_inN ?_
     exact xm_lnext () (sc (by kernel_rfl) rfl (sc (by kernel_rfl) rfl (sc (by kernel_rfl) rfl sub_nil))) (hsub [0] (by kernel_rfl) rfl)
    ·skip
     refine cm_skip ?_
     refine xm_inN ?_
     exact xm_lnext () (sc (by kernel_rfl) rfl (sc (by kernel_rfl) rfl (sc (by kernel_rfl) rfl sub_nil))) (hsub [0] (by kernel_rfl) rfl)
   intro s77 u78
   refine cr ?_
   refine lv 19 (by kernel_rfl) (fun w1 c1 => (om (v := .int .i64 _) rfl)) ?_
   refine lm_ck (fun h82 => ?_)
   refine lv 20 (by kernel_rfl) (fun w1 c1 => (op_add rfl rfl h82)) ?_
   refine lv 8 (by kernel_rfl) (fun w1 c1 => (oa (v := .int .i64 _) rfl)) ?_
   refine ln ?_
   exact xm_lnext () (sc (by kernel_rfl) rfl (sc (by kernel_rfl) rfl (sc (by kernel_rfl) rfl sub_nil))) (hsub [0] (by kernel_rfl) rfl)
  ·skip
   refine cm_exit ?_
   refine xm_thenE ?_
   refine xm_lexit ?_
   refine xm_here ?_
   exact xm_lnext () (sc (by kernel_rfl) rfl sub_nil) (hsub [] (by kernel_rfl) rfl)
 intro s45 u46
 refine cq ?_
 refine cr ?_
 refine lv 32 (by kernel_rfl) (fun w1 c1 => (om (v := .int .i64 _) rfl)) ?_
 refine lv 4 (by kernel_rfl) (fun w1 c1 => (oa (v := .int .i64 _) rfl)) ?_
 refine ln ?_
 refine xn ?_
 refine cm_ret ?_
 exact xm_retT rfl (by kernel_rfl) (show _ = Value.int .i64 _ from rfl) fun w1 c1 => ⟨(), rfl, hsub [] (by kernel_rfl) rfl w1 c1⟩
/-- recyclingref57.credit -/
def m_recyclingref57_credit (N : Nat) (p0 : ApiAccount) (p1 : ApiItem) (p2 : Int) (p3 : Int) (p4 : Int) (p5 : Int) : Option (Int) :=
 ck ((0 : Int) ≤ p2 ∧ p2 < (List.length p0.Emptyings : Int)) (
  (andThen
   (if p4 = 1 then
    (if (ix p0.Emptyings p2).Void = true then
     some (.done (p5))
    else
     some (.next ()))
   else
    (if p4 = 2 then
     callIf ((!((ix p0.Emptyings p2).Void)) = true) (m_recyclingref57_counts N p0 p2) fun r29 => (if ((!((ix p0.Emptyings p2).Void)) && (!r29)) = true then
      some (.done (p5))
     else
      some (.next ()))
    else
     (if p4 = 3 then
      ck ((0 : Int) ≤ p3 ∧ p3 < (List.length p0.Tariffs : Int)) (
       Option.bind (m_recyclingref57_weight N (ix p0.Tariffs p3) (ix p0.Emptyings p2)) fun r35 => ck (I64 (p1.Amount - r35)) (
        (if ((decide (p1.Kind = 3)) && (decide ((p1.Amount - r35) < p5))) = true then
         some (.done ((p1.Amount - r35)))
        else
         (if p1.Kind = 3 then
          some (.done (p5))
         else
          some (.next ())))))
     else
      some (.next ()))))
  fun (_s24 : Unit) =>
   some ((0 : Int))))
set_option maxHeartbeats 2000000 in
set_option maxRecDepth 20000 in
theorem m_recyclingref57_credit_ok (N : Nat) (w0 : World) (p0 : ApiAccount) (p1 : ApiItem) (p2 : Int) (p3 : Int) (p4 : Int) (p5 : Int) (A_p01 : Option Addr) (n_p01 c_p01 : Nat) (A_p02 : Option Addr) (n_p02 c_p02 : Nat) (A_p03 : Option Addr) (n_p03 c_p03 : Nat) (A_p04 : Option Addr) (n_p04 c_p04 : Nat) (A_p05 : Option Addr) (n_p05 c_p05 : Nat) (hr_p01 : RdE w0 2 encApiHousehold A_p01 p0.Households) (hz_p01 : SW A_p01 n_p01 c_p01 (List.length p0.Households)) (hr_p02 : RdE w0 5 encApiContainer A_p02 p0.Containers) (hz_p02 : SW A_p02 n_p02 c_p02 (List.length p0.Containers)) (hr_p03 : RdE w0 4 encApiAssign A_p03 p0.Assigns) (hz_p03 : SW A_p03 n_p03 c_p03 (List.length p0.Assigns)) (hr_p04 : RdE w0 7 encApiEmptying A_p04 p0.Emptyings) (hz_p04 : SW A_p04 n_p04 c_p04 (List.length p0.Emptyings)) (hr_p05 : RdE w0 5 encApiTariff A_p05 p0.Tariffs) (hz_p05 : SW A_p05 n_p05 c_p05 (List.length p0.Tariffs)) (r : Int) (hr : m_recyclingref57_credit N p0 p1 p2 p3 p4 p5 = some r) :
  Calls Tryz.prog 23 [.agg #[.slice A_p01 n_p01 c_p01, .slice A_p02 n_p02 c_p02, .slice A_p03 n_p03 c_p03, .slice A_p04 n_p04 c_p04, .slice A_p05 n_p05 c_p05, .int .i64 p0.Gap], .agg #[.int .i64 p1.Kind, .int .i64 p1.Ref, .int .i64 p1.Count, .int .i64 p1.Price, .int .i64 p1.Amount], .int .i64 p2, .int .i64 p3, .int .i64 p4, .int .i64 p5].toArray w0 fun x w1 => ∃ u, x = .returned ((fun (r : Int) (_u : Unit) => .int .i64 r) r u) ∧ Hs w0 ((fun (_r : Int) (_u : Unit) => []) r u) w1 := by
 refine calls_cm (n := 63) (R := fun r x w1 => ∃ u, x = .returned ((fun (r : Int) (_u : Unit) => .int .i64 r) r u) ∧ Hs w0 ((fun (_r : Int) (_u : Unit) => []) r u) w1) Tryz.func23 rfl rfl (Nat.le_of_ble_eq_true rfl) ?_ r hr
 unfold m_recyclingref57_credit
 refine cq ?_
 refine cr ?_
 refine lm_box 6 [.slice _ _ _, .slice _ _ _, .slice _ _ _, .slice _ _ _, .slice _ _ _, .int .i64 _] (by kernel_rfl) rfl ?_
 intro b5
 refine lm_box 7 [.int .i64 _, .int .i64 _, .int .i64 _, .int .i64 _, .int .i64 _] (by kernel_rfl) rfl ?_
 intro b6
 refine lv 12 (by kernel_rfl) (fun w1 c1 => (oa (v := .int .i64 _) rfl)) ?_
 refine ln ?_
 refine xn ?_
 refine cq ?_
 refine cr ?_
 refine lv 15 (by kernel_rfl) (fun w1 c1 => (oF (m := 3) (k := 3) rfl (by kernel_rfl) rfl)) ?_
 refine lv 16 (by kernel_rfl) (fun w1 c1 => (ol rfl (by kernel_rfl) (c1.cell 1 (u := .slice _ _ _) rfl rfl))) ?_
 refine lv 17 (by kernel_rfl) (fun w1 c1 => (om (v := .int .i64 _) rfl)) ?_
 refine lm_ck (fun h7 => ?_)
 refine lv 18 (by kernel_rfl) (fun w1 c1 => (op_indexA 7 rfl rfl (by kernel_rfl) ((hr_p04.old c1).addr h7.1 h7.2) hz_p04.2.2 h7.1 h7.2)) ?_
 refine lv 19 (by kernel_rfl) (fun w1 c1 => (op_loadR [.int .i64 ((ix p0.Emptyings p2).ID), .int .i64 ((ix p0.Emptyings p2).Container), .int .i64 ((ix p0.Emptyings p2).Vehicle), .int .i64 ((ix p0.Emptyings p2).At), .int .i64 ((ix p0.Emptyings p2).Mass.Lo), .int .i64 ((ix p0.Emptyings p2).Mass.Hi), .bool ((ix p0.Emptyings p2).Void)] rfl (by kernel_rfl) ((hr_p04.old c1).row h7.1 h7.2))) ?_
 refine lm_alloc 13 [.int .i64 0, .int .i64 0, .int .i64 0, .int .i64 0, .int .i64 0, .int .i64 0, .bool false] (v := .agg #[.int .i64 0, .int .i64 0, .int .i64 0, .int .i64 0, .int .i64 0, .int .i64 0, .bool false]) (by kernel_rfl) (by kernel_rfl) rfl ?_
 intro b8
 refine lm_storeA 0 [.int .i64 _, .int .i64 _, .int .i64 _, .int .i64 _, .int .i64 _, .int .i64 _, .bool _] [_, _, _, _, _, _, _] (H' := [blkE _ _ [_, _, _, _, _, _, _], _, _]) (by kernel_rfl) rfl rfl (by kernel_rfl) rfl rfl (by kernel_rfl) rfl rfl ?_
 refine ln ?_
 refine xn ?_
 refine cm_join (σ := Unit) (ξ := Unit) (fun s24 u25 => []) (fun s24 u25 => []) ?_ ?_
 ·skip
  refine cq ?_
  refine cr ?_
  refine lv 20 (by kernel_rfl) (fun w1 c1 => (om (v := .int .i64 _) rfl)) ?_
  refine ln ?_
  refine xn ?_
  refine cm_block ?_
  refine cq ?_
  refine cr ?_
  refine lv 22 (by kernel_rfl) (fun w1 c1 => (op_eql rfl rfl)) ?_
  refine lv 21 (by kernel_rfl) (fun w1 c1 => (oa (v := .bool _) rfl)) ?_
  refine ln ?_
  refine xn ?_
  refine cm_cond (by kernel_rfl) rfl (fun h26 => ?_) (fun h26 => ?_)
  ·skip
   refine cq ?_
   refine cr ?_
   refine lv 23 (by kernel_rfl) (fun w1 c1 => (oF (m := 6) (k := 6) rfl (by kernel_rfl) rfl)) ?_
   refine lv 24 (by kernel_rfl) (fun w1 c1 => (ol rfl (by kernel_rfl) (c1.cell 0 (u := .bool _) rfl rfl))) ?_
   refine ln ?_
   refine xn ?_
   refine cm_condB (by kernel_rfl) rfl (fun h27 => ?_) (fun h27 => ?_)
   ·skip
    refine cq ?_
    refine cr ?_
    refine lv 25 (by kernel_rfl) (fun w1 c1 => (om (v := .int .i64 _) rfl)) ?_
    refine lv 12 (by kernel_rfl) (fun w1 c1 => (oa (v := .int .i64 _) rfl)) ?_
    refine ln ?_
    refine xn ?_
    refine cm_ret ?_
    refine xm_inR ?_
    refine xm_lret ?_
    exact xm_retT rfl (by kernel_rfl) (show _ = Value.int .i64 _ from rfl) fun w1 c1 => ⟨(), rfl, hsub [] (by kernel_rfl) rfl w1 c1⟩
   ·skip
    refine cm_skip ?_
    refine xm_inN ?_
    exact xm_lnext () sub_nil (hsub [] (by kernel_rfl) rfl)
  ·skip
   refine cq ?_
   refine cr ?_
   refine lv 27 (by kernel_rfl) (fun w1 c1 => (op_eql rfl rfl)) ?_
   refine lv 26 (by kernel_rfl) (fun w1 c1 => (oa (v := .bool _) rfl)) ?_
   refine ln ?_
   refine xn ?_
   refine cm_cond (by kernel_rfl) rfl (fun h28 => ?_) (fun h28 => ?_)
   ·skip
    refine cq ?_
    refine cm_callIf fun r29 h30 => ?_
    refine cm_cutE [(36, .bool ((!((ix p0.Emptyings p2).Void)) && (!r29)))] ?_ ?_
    ·skip
     refine wv 28 (by kernel_rfl) (fun w1 c1 => (oF (m := 6) (k := 6) rfl (by kernel_rfl) rfl)) ?_
     refine wq_bool 29 (by kernel_rfl) (fun w1 c1 => (ol rfl (by kernel_rfl) (c1.cell 0 (u := .bool _) rfl rfl))) (fun h31 => ?_) (fun h31 => ?_)
     ·skip
      refine wv 30 (by kernel_rfl) (fun w1 c1 => (op_nott rfl)) ?_
      refine wv 31 (by kernel_rfl) (fun w1 c1 => (om (v := .bool false) rfl)) ?_
      refine wk 32 (by kernel_rfl) ?_
      refine wk 33 (by kernel_rfl) ?_
      refine wk 34 (by kernel_rfl) ?_
      refine wk 35 (by kernel_rfl) ?_
      refine wv 36 (by kernel_rfl) (fun w1 c1 => (opf (v := .bool false) rfl rfl)) ?_
      exact leaf_q (sub_out 9 _ rfl (by kernel_rfl) ⟨(congrArg Value.bool (by rw [h31] <;> rfl)), trivial⟩)
     ·skip
      refine wv 30 (by kernel_rfl) (fun w1 c1 => (op_notf rfl)) ?_
      refine wv 31 (by kernel_rfl) (fun w1 c1 => (om (v := .bool true) rfl)) ?_
      refine wv 32 (by kernel_rfl) (fun w1 c1 => (op_loadR [.slice _ _ _, .slice _ _ _, .slice _ _ _, .slice _ _ _, .slice _ _ _, .int .i64 _] rfl (by kernel_rfl) (c1.cells 2 rfl rfl))) ?_
      refine wv 33 (by kernel_rfl) (fun w1 c1 => (om (v := .int .i64 _) rfl)) ?_
      refine wq_call 34 (by kernel_rfl) (fun w1 c1 => op_call (by kernel_rfl)) (fun w1 c1 => (m_recyclingref57_counts_ok N w1 p0 p2 A_p01 n_p01 c_p01 A_p02 n_p02 c_p02 A_p03 n_p03 c_p03 A_p04 n_p04 c_p04 A_p05 n_p05 c_p05 (hr_p01.old c1) hz_p01 (hr_p02.old c1) hz_p02 (hr_p03.old c1) hz_p03 (hr_p04.old c1) hz_p04 (hr_p05.old c1) hz_p05 r29 (h30 (by rw [h31] <;> rfl))).mono (fun _ _ ⟨_, hx, hu⟩ => ⟨hx, c1.call hu⟩)) ?_
      refine wv 35 (by kernel_rfl) (fun w1 c1 => (op_not rfl)) ?_
      refine wv 36 (by kernel_rfl) (fun w1 c1 => (opt (v := .bool _) rfl rfl)) ?_
      exact leaf_q (sub_out 9 _ rfl (by kernel_rfl) ⟨(congrArg Value.bool (by rw [h31] <;> rfl)), trivial⟩)
    refine xn ?_
    refine cm_condB (by kernel_rfl) rfl (fun h32 => ?_) (fun h32 => ?_)
    ·skip
     refine cq ?_
     refine cr ?_
     refine lv 37 (by kernel_rfl) (fun w1 c1 => (om (v := .int .i64 _) rfl)) ?_
     refine lv 12 (by kernel_rfl) (fun w1 c1 => (oa (v := .int .i64 _) rfl)) ?_
     refine ln ?_
     refine xn ?_
     refine cm_ret ?_
     refine xm_inR ?_
     refine xm_lret ?_
     exact xm_retT rfl (by kernel_rfl) (show _ = Value.int .i64 _ from rfl) fun w1 c1 => ⟨(), rfl, hsub [] (by kernel_rfl) rfl w1 c1⟩
    ·skip
     refine cm_skip ?_
     refine xm_inN ?_
     exact xm_lnext () sub_nil (hsub [] (by kernel_rfl) rfl)
   ·skip
    refine cq ?_
    refine cr ?_
    refine lv 39 (by kernel_rfl) (fun w1 c1 => (op_eql rfl rfl)) ?_
    refine lv 38 (by kernel_rfl) (fun w1 c1 => (oa (v := .bool _) rfl)) ?_
    refine ln ?_
    refine xn ?_
    refine cm_cond (by kernel_rfl) rfl (fun h33 => ?_) (fun h33 => ?_)
    ·skip
     refine cq ?_
     refine cm_ck (fun h34 => ?_)
     refine cm_bind fun r35 h36 => ?_
     refine cm_ck (fun h37 => ?_)
     refine cm_drawn [(14, .int .i64 (p1.Amount - r35))] (by kernel_rfl) (by kernel_rfl) ?_ ?_
     ·skip
      refine wv 40 (by kernel_rfl) (fun w1 c1 => (oF (m := 4) (k := 4) rfl (by kernel_rfl) rfl)) ?_
      refine wv 41 (by kernel_rfl) (fun w1 c1 => (ol rfl (by kernel_rfl) (c1.cell 1 (u := .int .i64 _) rfl rfl))) ?_
      refine wv 42 (by kernel_rfl) (fun w1 c1 => (oF (m := 4) (k := 4) rfl (by kernel_rfl) rfl)) ?_
      refine wv 43 (by kernel_rfl) (fun w1 c1 => (ol rfl (by kernel_rfl) (c1.cell 2 (u := .slice _ _ _) rfl rfl))) ?_
      refine wv 44 (by kernel_rfl) (fun w1 c1 => (om (v := .int .i64 _) rfl)) ?_
      refine wv 45 (by kernel_rfl) (fun w1 c1 => (op_indexA 5 rfl rfl (by kernel_rfl) ((hr_p05.old c1).addr h34.1 h34.2) hz_p05.2.2 h34.1 h34.2)) ?_
      refine wv 46 (by kernel_rfl) (fun w1 c1 => (op_loadR [.int .i64 ((ix p0.Tariffs p3).From), .int .i64 ((ix p0.Tariffs p3).Base), .int .i64 ((ix p0.Tariffs p3).Empty), .int .i64 ((ix p0.Tariffs p3).Kilo), .int .i64 ((ix p0.Tariffs p3).Free)] rfl (by kernel_rfl) ((hr_p05.old c1).row h34.1 h34.2))) ?_
      refine wv 47 (by kernel_rfl) (fun w1 c1 => (op_loadR [.int .i64 _, .int .i64 _, .int .i64 _, .int .i64 _, .int .i64 _, .int .i64 _, .bool _] rfl (by kernel_rfl) (c1.cells 0 rfl rfl))) ?_
      refine wq_call 48 (by kernel_rfl) (fun w1 c1 => op_call (by kernel_rfl)) (fun w1 c1 => (m_recyclingref57_weight_ok N w1 (ix p0.Tariffs p3) (ix p0.Emptyings p2)  r35 h36).mono (fun _ _ ⟨_, hx, hu⟩ => ⟨hx, c1.call hu⟩)) ?_
      refine wv 49 (by kernel_rfl) (fun w1 c1 => (op_sub rfl rfl h37)) ?_
      refine wv 14 (by kernel_rfl) (fun w1 c1 => (oa (v := .int .i64 _) rfl)) ?_
      exact leaf_q (sub_out 11 _ rfl (by kernel_rfl) ⟨rfl, trivial⟩)
     refine xn ?_
     refine cq ?_
     refine cq ?_
     refine cm_cutE [(57, .bool ((decide (p1.Kind = 3)) && (decide ((p1.Amount - r35) < p5))))] ?_ ?_
     ·skip
      refine wv 50 (by kernel_rfl) (fun w1 c1 => (oF (m := 0) (k := 0) rfl (by kernel_rfl) rfl)) ?_
      refine wv 51 (by kernel_rfl) (fun w1 c1 => (ol rfl (by kernel_rfl) (c1.cell 1 (u := .int .i64 _) rfl rfl))) ?_
      refine wq_dec 52 (by kernel_rfl) (fun w1 c1 => (op_eql rfl rfl)) (fun h38 => ?_) (fun h38 => ?_)
      ·skip
       refine wv 53 (by kernel_rfl) (fun w1 c1 => (om (v := .bool true) rfl)) ?_
       refine wv 54 (by kernel_rfl) (fun w1 c1 => (om (v := .int .i64 _) rfl)) ?_
       refine wv 55 (by kernel_rfl) (fun w1 c1 => (om (v := .int .i64 _) rfl)) ?_
       refine wv 56 (by kernel_rfl) (fun w1 c1 => (op_lss rfl rfl)) ?_
       refine wv 57 (by kernel_rfl) (fun w1 c1 => (opt (v := .bool _) rfl rfl)) ?_
       exact leaf_q (sub_out 8 _ rfl (by kernel_rfl) ⟨(congrArg Value.bool (by rw [decide_eq_true h38] <;> rfl)), trivial⟩)
      ·skip
       refine wv 53 (by kernel_rfl) (fun w1 c1 => (om (v := .bool false) rfl)) ?_
       refine wk 54 (by kernel_rfl) ?_
       refine wk 55 (by kernel_rfl) ?_
       refine wk 56 (by kernel_rfl) ?_
       refine wv 57 (by kernel_rfl) (fun w1 c1 => (opf (v := .bool false) rfl rfl)) ?_
       exact leaf_q (sub_out 8 _ rfl (by kernel_rfl) ⟨(congrArg Value.bool (by rw [decide_eq_false h38] <;> rfl)), trivial⟩)
     refine xn ?_
     refine cm_condB (by kernel_rfl) rfl (fun h39 => ?_) (fun h39 => ?_)
     ·skip
      refine cq ?_
      refine cr ?_
      refine lv 58 (by kernel_rfl) (fun w1 c1 => (om (v := .int .i64 _) rfl)) ?_
      refine lv 12 (by kernel_rfl) (fun w1 c1 => (oa (v := .int .i64 _) rfl)) ?_
      refine ln ?_
      refine xn ?_
      refine cm_ret ?_
      refine xm_thenR ?_
      refine xm_inR ?_
      refine xm_lret ?_
      exact xm_retT rfl (by kernel_rfl) (show _ = Value.int .i64 _ from rfl) fun w1 c1 => ⟨(), rfl, hsub [] (by kernel_rfl) rfl w1 c1⟩
     ·skip
      refine cm_skip ?_
      refine xn ?_
      refine cq ?_
      refine cr ?_
      refine lv 59 (by kernel_rfl) (fun w1 c1 => (oF (m := 0) (k := 0) rfl (by kernel_rfl) rfl)) ?_
      refine lv 60 (by kernel_rfl) (fun w1 c1 => (ol rfl (by kernel_rfl) (c1.cell 1 (u := .int .i64 _) rfl rfl))) ?_
      refine lv 61 (by kernel_rfl) (fun w1 c1 => (op_eql rfl rfl)) ?_
      refine ln ?_
      refine xn ?_
      refine cm_cond (by kernel_rfl) rfl (fun h40 => ?_) (fun h40 => ?_)
      ·skip
       refine cq ?_
       refine cr ?_
       refine lv 62 (by kernel_rfl) (fun w1 c1 => (om (v := .int .i64 _) rfl)) ?_
       refine lv 12 (by kernel_rfl) (fun w1 c1 => (oa (v := .int .i64 _) rfl)) ?_
       refine ln ?_
       refine xn ?_
       refine cm_ret ?_
       refine xm_inR ?_
       refine xm_lret ?_
       exact xm_retT rfl (by kernel_rfl) (show _ = Value.int .i64 _ from rfl) fun w1 c1 => ⟨(), rfl, hsub [] (by kernel_rfl) rfl w1 c1⟩
      ·skip
       refine cm_skip ?_
       refine xm_inN ?_
       exact xm_lnext () sub_nil (hsub [] (by kernel_rfl) rfl)
    ·skip
     refine cm_skip ?_
     refine xm_inN ?_
     exact xm_lnext () sub_nil (hsub [] (by kernel_rfl) rfl)
 intro s24 u25
 refine cq ?_
 refine cr ?_
 refine lv 12 (by kernel_rfl) (fun w1 c1 => (oa (v := .int .i64 _) rfl)) ?_
 refine ln ?_
 refine xn ?_
 refine cm_ret ?_
 exact xm_retT rfl (by kernel_rfl) (show _ = Value.int .i64 _ from rfl) fun w1 c1 => ⟨(), rfl, hsub [] (by kernel_rfl) rfl w1 c1⟩
/-- recyclingref57.Decide -/
def m_recyclingref57_Decide (N : Nat) (p0 : ApiAccount) (p1 : ApiBill) (p2 : ApiComplaint) (p3 : Int) : Option (ApiRuling × Int) :=
 Option.bind (m_recyclingref54_Check N p0) fun r9 => (if r9 ≠ 0 then
  some (((ApiRuling.mk 0 0), r9))
 else
  Option.bind (m_recyclingref57_Check N p2) fun r12 => (if r12 ≠ 0 then
   some (((ApiRuling.mk 0 0), r12))
  else
   (if p2.Bill ≠ p1.ID then
    some (((ApiRuling.mk 0 0), (34 : Int)))
   else
    (if (((((decide (p3 < 0)) || (decide (36524 < p3))) || (decide (p1.When.From < 0))) || (decide (p1.When.To < p1.When.From))) || (decide (36525 < p1.When.To))) = true then
     some (((ApiRuling.mk 0 0), (1 : Int)))
    else
     Option.bind (m_recyclingref57_items N p1) fun r21 => (if r21 ≠ 0 then
      some (((ApiRuling.mk 0 0), r21))
     else
      Option.bind (m_recyclingref57_disputed N p1 p2) fun r24 => (if (!r24.2) = true then
       some (((ApiRuling.mk 0 7), (0 : Int)))
      else
       Option.bind (m_recyclingref57_Rest N p1 r24.1.Ref) fun r28 => Option.bind (m_recyclingref57_record N p0.Emptyings r24.1.Ref) fun r30 => (if ((decide (r28.2 ≠ 0)) || (decide (r30 < 0))) = true then
        some (((ApiRuling.mk 0 7), (0 : Int)))
       else
        ck ((0 : Int) ≤ r30 ∧ r30 < (List.length p0.Emptyings : Int)) (
         ck (I64 ((ix p0.Emptyings r30).At)) (
          Option.bind (m_recyclingref53_At N p0.Tariffs (Int.tdiv ((ix p0.Emptyings r30).At) 86400)) fun r36 => (if r36.2 ≠ 0 then
           some (((ApiRuling.mk 0 7), (0 : Int)))
          else
           ck (I64 (p1.When.To + p3)) (
            ck (I64 ((p1.When.To + p3) * (86400 : Int))) (
             (if ((p1.When.To + p3) * (86400 : Int)) < p2.At then
              some (((ApiRuling.mk 0 31), (0 : Int)))
             else
              Option.bind (m_recyclingref57_credit N p0 r24.1 r30 r36.1 p2.Kind r28.1) fun r42 => (if r42 ≤ 0 then
               some (((ApiRuling.mk 0 13), (0 : Int)))
              else
               some (((ApiRuling.mk r42 0), (0 : Int)))))))))))))))))
set_option maxHeartbeats 2000000 in
set_option maxRecDepth 20000 in
theorem m_recyclingref57_Decide_ok (N : Nat) (w0 : World) (p0 : ApiAccount) (p1 : ApiBill) (p2 : ApiComplaint) (p3 : Int) (A_p01 : Option Addr) (n_p01 c_p01 : Nat) (A_p02 : Option Addr) (n_p02 c_p02 : Nat) (A_p03 : Option Addr) (n_p03 c_p03 : Nat) (A_p04 : Option Addr) (n_p04 c_p04 : Nat) (A_p05 : Option Addr) (n_p05 c_p05 : Nat) (A_p11 : Option Addr) (n_p11 c_p11 : Nat) (hr_p01 : RdE w0 2 encApiHousehold A_p01 p0.Households) (hz_p01 : SW A_p01 n_p01 c_p01 (List.length p0.Households)) (hr_p02 : RdE w0 5 encApiContainer A_p02 p0.Containers) (hz_p02 : SW A_p02 n_p02 c_p02 (List.length p0.Containers)) (hr_p03 : RdE w0 4 encApiAssign A_p03 p0.Assigns) (hz_p03 : SW A_p03 n_p03 c_p03 (List.length p0.Assigns)) (hr_p04 : RdE w0 7 encApiEmptying A_p04 p0.Emptyings) (hz_p04 : SW A_p04 n_p04 c_p04 (List.length p0.Emptyings)) (hr_p05 : RdE w0 5 encApiTariff A_p05 p0.Tariffs) (hz_p05 : SW A_p05 n_p05 c_p05 (List.length p0.Tariffs)) (hr_p11 : RdE w0 5 encApiItem A_p11 p1.Items) (hz_p11 : SW A_p11 n_p11 c_p11 (List.length p1.Items)) (r : ApiRuling × Int) (hr : m_recyclingref57_Decide N p0 p1 p2 p3 = some r) :
  Calls Tryz.prog 7 [.agg #[.slice A_p01 n_p01 c_p01, .slice A_p02 n_p02 c_p02, .slice A_p03 n_p03 c_p03, .slice A_p04 n_p04 c_p04, .slice A_p05 n_p05 c_p05, .int .i64 p0.Gap], .agg #[.int .i64 p1.ID, .int .i64 p1.Household, .int .i64 p1.When.From, .int .i64 p1.When.To, .slice A_p11 n_p11 c_p11, .int .i64 p1.Total], .agg #[.int .i64 p2.Bill, .int .i64 p2.Item, .int .i64 p2.At, .int .i64 p2.Kind], .int .i64 p3].toArray w0 fun x w1 => ∃ u, x = .returned ((fun (r : ApiRuling × Int) (_u : Unit) => .tuple #[.agg #[.int .i64 r.1.Credit, .int .i64 r.1.Err], .int .i64 r.2]) r u) ∧ Hs w0 ((fun (_r : ApiRuling × Int) (_u : Unit) => []) r u) w1 := by
 refine calls_cm (n := 136) (R := fun r x w1 => ∃ u, x = .returned ((fun (r : ApiRuling × Int) (_u : Unit) => .tuple #[.agg #[.int .i64 r.1.Credit, .int .i64 r.1.Err], .int .i64 r.2]) r u) ∧ Hs w0 ((fun (_r : ApiRuling × Int) (_u : Unit) => []) r u) w1) Tryz.func7 rfl rfl (Nat.le_of_ble_eq_true rfl) ?_ r hr
 unfold m_recyclingref57_Decide
 refine cq ?_
 refine cr ?_
 refine lm_box 4 [.slice _ _ _, .slice _ _ _, .slice _ _ _, .slice _ _ _, .slice _ _ _, .int .i64 _] (by kernel_rfl) rfl ?_
 intro b5
 refine lm_box 5 [.int .i64 _, .int .i64 _, .int .i64 _, .int .i64 _, .slice _ _ _, .int .i64 _] (by kernel_rfl) rfl ?_
 intro b6
 refine lm_box 6 [.int .i64 _, .int .i64 _, .int .i64 _, .int .i64 _] (by kernel_rfl) rfl ?_
 intro b7
 refine lm_alloc 8 [.int .i64 0, .int .i64 0] (v := .agg #[.int .i64 0, .int .i64 0]) (by kernel_rfl) (by kernel_rfl) rfl ?_
 intro b8
 refine lv 9 (by kernel_rfl) (fun w1 c1 => (oa (v := .int .i64 _) rfl)) ?_
 refine ln ?_
 refine xn ?_
 refine cq ?_
 refine cr ?_
 refine lv 17 (by kernel_rfl) (fun w1 c1 => (op_loadR [.slice _ _ _, .slice _ _ _, .slice _ _ _, .slice _ _ _, .slice _ _ _, .int .i64 _] rfl (by kernel_rfl) (c1.cells 3 rfl rfl))) ?_
 refine lm_call 18 (V := (fun (r : Int) (_u : Unit) => .int .i64 r)) (HR := (fun (_r : Int) (_u : Unit) => [])) (by kernel_rfl) (fun w1 => op_call (by kernel_rfl)) (fun r1 hr1 w1 c1 => m_recyclingref54_Check_ok N w1 p0 A_p01 n_p01 c_p01 A_p02 n_p02 c_p02 A_p03 n_p03 c_p03 A_p04 n_p04 c_p04 A_p05 n_p05 c_p05 (hr_p01.old c1) hz_p01 (hr_p02.old c1) hz_p02 (hr_p03.old c1) hz_p03 (hr_p04.old c1) hz_p04 (hr_p05.old c1) hz_p05 r1 hr1) ?_
 intro r9 u10
 refine lv 10 (by kernel_rfl) (fun w1 c1 => (oa (v := .int .i64 _) rfl)) ?_
 refine ln ?_
 refine xn ?_
 refine cq ?_
 refine cq ?_
 refine cr ?_
 refine lv 19 (by kernel_rfl) (fun w1 c1 => (om (v := .int .i64 _) rfl)) ?_
 refine lv 20 (by kernel_rfl) (fun w1 c1 => (op_neq rfl rfl)) ?_
 refine ln ?_
 refine xn ?_
 refine cm_cond (by kernel_rfl) rfl (fun h11 => ?_) (fun h11 => ?_)
 ·skip
  refine cq ?_
  refine cr ?_
  refine lv 21 (by kernel_rfl) (fun w1 c1 => (op_build (z := [.int .i64 0, .int .i64 0]) (tab := [(0, 1), (1, 1)]) (cs := [.int .i64 _, .int .i64 _]) [] (by kernel_rfl) (by kernel_rfl) fillOk_nil rfl)) ?_
  refine lv 22 (by kernel_rfl) (fun w1 c1 => (om (v := .int .i64 _) rfl)) ?_
  refine lm_storeA 0 [.int .i64 _, .int .i64 _] [_, _] (H' := [blkE _ _ [_, _], _, _, _]) (by kernel_rfl) rfl rfl (by kernel_rfl) rfl rfl (by kernel_rfl) rfl rfl ?_
  refine lv 9 (by kernel_rfl) (fun w1 c1 => (oa (v := .int .i64 _) rfl)) ?_
  refine ln ?_
  refine xn ?_
  refine cm_ret ?_
  refine xm_thenR ?_
  exact xm_retCT rfl (by kernel_rfl) (show _ = Value.pointer (some ⟨_, 0, none⟩) from rfl) (by kernel_rfl) (fun w1 c1 => c1.cells 0 (ds := [.int .i64 _, .int .i64 _]) rfl rfl) (by kernel_rfl) (show _ = Value.int .i64 _ from rfl) fun w1 c1 => ⟨(), rfl, hsub [] (by kernel_rfl) rfl w1 c1⟩
 ·skip
  refine cm_skip ?_
  refine xn ?_
  refine cq ?_
  refine cr ?_
  refine lv 23 (by kernel_rfl) (fun w1 c1 => (op_loadR [.int .i64 _, .int .i64 _, .int .i64 _, .int .i64 _] rfl (by kernel_rfl) (c1.cells 1 rfl rfl))) ?_
  refine lm_call 24 (V := (fun (r : Int) (_u : Unit) => .int .i64 r)) (HR := (fun (_r : Int) (_u : Unit) => [])) (by kernel_rfl) (fun w1 => op_call (by kernel_rfl)) (fun r1 hr1 w1 c1 => m_recyclingref57_Check_ok N w1 p2  r1 hr1) ?_
  intro r12 u13
  refine lv 10 (by kernel_rfl) (fun w1 c1 => (oa (v := .int .i64 _) rfl)) ?_
  refine ln ?_
  refine xn ?_
  refine cq ?_
  refine cq ?_
  refine cr ?_
  refine lv 25 (by kernel_rfl) (fun w1 c1 => (om (v := .int .i64 _) rfl)) ?_
  refine lv 26 (by kernel_rfl) (fun w1 c1 => (op_neq rfl rfl)) ?_
  refine ln ?_
  refine xn ?_
  refine cm_cond (by kernel_rfl) rfl (fun h14 => ?_) (fun h14 => ?_)
  ·skip
   refine cq ?_
   refine cr ?_
   refine lv 27 (by kernel_rfl) (fun w1 c1 => (op_build (z := [.int .i64 0, .int .i64 0]) (tab := [(0, 1), (1, 1)]) (cs := [.int .i64 _, .int .i64 _]) [] (by kernel_rfl) (by kernel_rfl) fillOk_nil rfl)) ?_
   refine lv 28 (by kernel_rfl) (fun w1 c1 => (om (v := .int .i64 _) rfl)) ?_
   refine lm_storeA 0 [.int .i64 _, .int .i64 _] [_, _] (H' := [blkE _ _ [_, _], _, _, _]) (by kernel_rfl) rfl rfl (by kernel_rfl) rfl rfl (by kernel_rfl) rfl rfl ?_
   refine lv 9 (by kernel_rfl) (fun w1 c1 => (oa (v := .int .i64 _) rfl)) ?_
   refine ln ?_
   refine xn ?_
   refine cm_ret ?_
   refine xm_thenR ?_
   exact xm_retCT rfl (by kernel_rfl) (show _ = Value.pointer (some ⟨_, 0, none⟩) from rfl) (by kernel_rfl) (fun w1 c1 => c1.cells 0 (ds := [.int .i64 _, .int .i64 _]) rfl rfl) (by kernel_rfl) (show _ = Value.int .i64 _ from rfl) fun w1 c1 => ⟨(), rfl, hsub [] (by kernel_rfl) rfl w1 c1⟩
  ·skip
   refine cm_skip ?_
   refine xn ?_
   refine cq ?_
   refine cq ?_
   refine cr ?_
   refine lv 29 (by kernel_rfl) (fun w1 c1 => (oF (m := 0) (k := 0) rfl (by kernel_rfl) rfl)) ?_
   refine lv 30 (by kernel_rfl) (fun w1 c1 => (ol rfl (by kernel_rfl) (c1.cell 1 (u := .int .i64 _) rfl rfl))) ?_
   refine lv 31 (by kernel_rfl) (fun w1 c1 => (oF (m := 0) (k := 0) rfl (by kernel_rfl) rfl)) ?_
   refine lv 32 (by kernel_rfl) (fun w1 c1 => (ol rfl (by kernel_rfl) (c1.cell 2 (u := .int .i64 _) rfl rfl))) ?_
   refine lv 33 (by kernel_rfl) (fun w1 c1 => (op_neq rfl rfl)) ?_
   refine ln ?_
   refine xn ?_
   refine cm_cond (by kernel_rfl) rfl (fun h15 => ?_) (fun h15 => ?_)
   ·skip
    refine cq ?_
    refine cr ?_
    refine lv 34 (by kernel_rfl) (fun w1 c1 => (op_build (z := [.int .i64 0, .int .i64 0]) (tab := [(0, 1), (1, 1)]) (cs := [.int .i64 _, .int .i64 _]) [] (by kernel_rfl) (by kernel_rfl) fillOk_nil rfl)) ?_
    refine lm_storeA 0 [.int .i64 _, .int .i64 _] [_, _] (H' := [blkE _ _ [_, _], _, _, _]) (by kernel_rfl) rfl rfl (by kernel_rfl) rfl rfl (by kernel_rfl) rfl rfl ?_
    refine lv 9 (by kernel_rfl) (fun w1 c1 => (oa (v := .int .i64 _) rfl)) ?_
    refine ln ?_
    refine xn ?_
    refine cm_ret ?_
    refine xm_thenR ?_
    exact xm_retCT rfl (by kernel_rfl) (show _ = Value.pointer (some ⟨_, 0, none⟩) from rfl) (by kernel_rfl) (fun w1 c1 => c1.cells 0 (ds := [.int .i64 _, .int .i64 _]) rfl rfl) (by kernel_rfl) (show _ = Value.int .i64 _ from rfl) fun w1 c1 => ⟨(), rfl, hsub [] (by kernel_rfl) rfl w1 c1⟩
   ·skip
    refine cm_skip ?_
    refine xn ?_
    refine cq ?_
    refine cq ?_
    refine cm_cutE [(61, .bool (((((decide (p3 < 0)) || (decide (36524 < p3))) || (decide (p1.When.From < 0))) || (decide (p1.When.To < p1.When.From))) || (decide (36525 < p1.When.To))))] ?_ ?_
    ·skip
     refine wv 35 (by kernel_rfl) (fun w1 c1 => (om (v := .int .i64 _) rfl)) ?_
     refine wq_dec 36 (by kernel_rfl) (fun w1 c1 => (op_lss rfl rfl)) (fun h16 => ?_) (fun h16 => ?_)
     ·skip
      refine wv 37 (by kernel_rfl) (fun w1 c1 => (om (v := .bool true) rfl)) ?_
      refine wk 38 (by kernel_rfl) ?_
      refine wk 39 (by kernel_rfl) ?_
      refine wv 40 (by kernel_rfl) (fun w1 c1 => (opt (v := .bool true) rfl rfl)) ?_
      refine wv 41 (by kernel_rfl) (fun w1 c1 => (om (v := .bool true) rfl)) ?_
      refine wk 42 (by kernel_rfl) ?_
      refine wk 43 (by kernel_rfl) ?_
      refine wk 44 (by kernel_rfl) ?_
      refine wk 45 (by kernel_rfl) ?_
      refine wv 46 (by kernel_rfl) (fun w1 c1 => (opt (v := .bool true) rfl rfl)) ?_
      refine wv 47 (by kernel_rfl) (fun w1 c1 => (om (v := .bool true) rfl)) ?_
      refine wk 48 (by kernel_rfl) ?_
      refine wk 49 (by kernel_rfl) ?_
      refine wk 50 (by kernel_rfl) ?_
      refine wk 51 (by kernel_rfl) ?_
      refine wk 52 (by kernel_rfl) ?_
      refine wk 53 (by kernel_rfl) ?_
      refine wk 54 (by kernel_rfl) ?_
      refine wv 55 (by kernel_rfl) (fun w1 c1 => (opt (v := .bool true) rfl rfl)) ?_
      refine wv 56 (by kernel_rfl) (fun w1 c1 => (om (v := .bool true) rfl)) ?_
      refine wk 57 (by kernel_rfl) ?_
      refine wk 58 (by kernel_rfl) ?_
      refine wk 59 (by kernel_rfl) ?_
      refine wk 60 (by kernel_rfl) ?_
      refine wv 61 (by kernel_rfl) (fun w1 c1 => (opt (v := .bool true) rfl rfl)) ?_
      exact leaf_q (sub_out 27 _ rfl (by kernel_rfl) ⟨(congrArg Value.bool (by rw [decide_eq_true h16] <;> rfl)), trivial⟩)
     ·skip
      refine wv 37 (by kernel_rfl) (fun w1 c1 => (om (v := .bool false) rfl)) ?_
      refine wv 38 (by kernel_rfl) (fun w1 c1 => (om (v := .int .i64 _) rfl)) ?_
      refine wq_dec 39 (by kernel_rfl) (fun w1 c1 => (op_gtr rfl rfl)) (fun h17 => ?_) (fun h17 => ?_)
      ·skip
       refine wv 40 (by kernel_rfl) (fun w1 c1 => (opf (v := .bool true) rfl rfl)) ?_
       refine wv 41 (by kernel_rfl) (fun w1 c1 => (om (v := .bool true) rfl)) ?_
       refine wk 42 (by kernel_rfl) ?_
       refine wk 43 (by kernel_rfl) ?_
       refine wk 44 (by kernel_rfl) ?_
       refine wk 45 (by kernel_rfl) ?_
       refine wv 46 (by kernel_rfl) (fun w1 c1 => (opt (v := .bool true) rfl rfl)) ?_
       refine wv 47 (by kernel_rfl) (fun w1 c1 => (om (v := .bool true) rfl)) ?_
       refine wk 48 (by kernel_rfl) ?_
       refine wk 49 (by kernel_rfl) ?_
       refine wk 50 (by kernel_rfl) ?_
       refine wk 51 (by kernel_rfl) ?_
       refine wk 52 (by kernel_rfl) ?_
       refine wk 53 (by kernel_rfl) ?_
       refine wk 54 (by kernel_rfl) ?_
       refine wv 55 (by kernel_rfl) (fun w1 c1 => (opt (v := .bool true) rfl rfl)) ?_
       refine wv 56 (by kernel_rfl) (fun w1 c1 => (om (v := .bool true) rfl)) ?_
       refine wk 57 (by kernel_rfl) ?_
       refine wk 58 (by kernel_rfl) ?_
       refine wk 59 (by kernel_rfl) ?_
       refine wk 60 (by kernel_rfl) ?_
       refine wv 61 (by kernel_rfl) (fun w1 c1 => (opt (v := .bool true) rfl rfl)) ?_
       exact leaf_q (sub_out 27 _ rfl (by kernel_rfl) ⟨(congrArg Value.bool (by rw [decide_eq_false h16, decide_eq_true h17] <;> rfl)), trivial⟩)
      ·skip
       refine wv 40 (by kernel_rfl) (fun w1 c1 => (opf (v := .bool false) rfl rfl)) ?_
       refine wv 41 (by kernel_rfl) (fun w1 c1 => (om (v := .bool false) rfl)) ?_
       refine wv 42 (by kernel_rfl) (fun w1 c1 => (oF (m := 2) (k := 2) rfl (by kernel_rfl) rfl)) ?_
       refine wv 43 (by kernel_rfl) (fun w1 c1 => (oF (m := 0) (k := 2) rfl (by kernel_rfl) rfl)) ?_
       refine wv 44 (by kernel_rfl) (fun w1 c1 => (ol rfl (by kernel_rfl) (c1.cell 2 (u := .int .i64 _) rfl rfl))) ?_
       refine wq_dec 45 (by kernel_rfl) (fun w1 c1 => (op_lss rfl rfl)) (fun h18 => ?_) (fun h18 => ?_)
       ·skip
        refine wv 46 (by kernel_rfl) (fun w1 c1 => (opf (v := .bool true) rfl rfl)) ?_
        refine wv 47 (by kernel_rfl) (fun w1 c1 => (om (v := .bool true) rfl)) ?_
        refine wk 48 (by kernel_rfl) ?_
        refine wk 49 (by kernel_rfl) ?_
        refine wk 50 (by kernel_rfl) ?_
        refine wk 51 (by kernel_rfl) ?_
        refine wk 52 (by kernel_rfl) ?_
        refine wk 53 (by kernel_rfl) ?_
        refine wk 54 (by kernel_rfl) ?_
        refine wv 55 (by kernel_rfl) (fun w1 c1 => (opt (v := .bool true) rfl rfl)) ?_
        refine wv 56 (by kernel_rfl) (fun w1 c1 => (om (v := .bool true) rfl)) ?_
        refine wk 57 (by kernel_rfl) ?_
        refine wk 58 (by kernel_rfl) ?_
        refine wk 59 (by kernel_rfl) ?_
        refine wk 60 (by kernel_rfl) ?_
        refine wv 61 (by kernel_rfl) (fun w1 c1 => (opt (v := .bool true) rfl rfl)) ?_
        exact leaf_q (sub_out 27 _ rfl (by kernel_rfl) ⟨(congrArg Value.bool (by rw [decide_eq_false h16, decide_eq_false h17, decide_eq_true h18] <;> rfl)), trivial⟩)
       ·skip
        refine wv 46 (by kernel_rfl) (fun w1 c1 => (opf (v := .bool false) rfl rfl)) ?_
        refine wv 47 (by kernel_rfl) (fun w1 c1 => (om (v := .bool false) rfl)) ?_
        refine wv 48 (by kernel_rfl) (fun w1 c1 => (oF (m := 2) (k := 2) rfl (by kernel_rfl) rfl)) ?_
        refine wv 49 (by kernel_rfl) (fun w1 c1 => (oF (m := 0) (k := 2) rfl (by kernel_rfl) rfl)) ?_
        refine wv 50 (by kernel_rfl) (fun w1 c1 => (ol rfl (by kernel_rfl) (c1.cell 2 (u := .int .i64 _) rfl rfl))) ?_
        refine wv 51 (by kernel_rfl) (fun w1 c1 => (oF (m := 2) (k := 2) rfl (by kernel_rfl) rfl)) ?_
        refine wv 52 (by kernel_rfl) (fun w1 c1 => (oF (m := 1) (k := 3) rfl (by kernel_rfl) rfl)) ?_
        refine wv 53 (by kernel_rfl) (fun w1 c1 => (ol rfl (by kernel_rfl) (c1.cell 2 (u := .int .i64 _) rfl rfl))) ?_
        refine wq_dec 54 (by kernel_rfl) (fun w1 c1 => (op_gtr rfl rfl)) (fun h19 => ?_) (fun h19 => ?_)
        ·skip
         refine wv 55 (by kernel_rfl) (fun w1 c1 => (opf (v := .bool true) rfl rfl)) ?_
         refine wv 56 (by kernel_rfl) (fun w1 c1 => (om (v := .bool true) rfl)) ?_
         refine wk 57 (by kernel_rfl) ?_
         refine wk 58 (by kernel_rfl) ?_
         refine wk 59 (by kernel_rfl) ?_
         refine wk 60 (by kernel_rfl) ?_
         refine wv 61 (by kernel_rfl) (fun w1 c1 => (opt (v := .bool true) rfl rfl)) ?_
         exact leaf_q (sub_out 27 _ rfl (by kernel_rfl) ⟨(congrArg Value.bool (by rw [decide_eq_false h16, decide_eq_false h17, decide_eq_false h18, decide_eq_true h19] <;> rfl)), trivial⟩)
        ·skip
         refine wv 55 (by kernel_rfl) (fun w1 c1 => (opf (v := .bool false) rfl rfl)) ?_
         refine wv 56 (by kernel_rfl) (fun w1 c1 => (om (v := .bool false) rfl)) ?_
         refine wv 57 (by kernel_rfl) (fun w1 c1 => (oF (m := 2) (k := 2) rfl (by kernel_rfl) rfl)) ?_
         refine wv 58 (by kernel_rfl) (fun w1 c1 => (oF (m := 1) (k := 3) rfl (by kernel_rfl) rfl)) ?_
         refine wv 59 (by kernel_rfl) (fun w1 c1 => (ol rfl (by kernel_rfl) (c1.cell 2 (u := .int .i64 _) rfl rfl))) ?_
         refine wv 60 (by kernel_rfl) (fun w1 c1 => (op_gtr rfl rfl)) ?_
         refine wv 61 (by kernel_rfl) (fun w1 c1 => (opf (v := .bool _) rfl rfl)) ?_
         exact leaf_q (sub_out 27 _ rfl (by kernel_rfl) ⟨(congrArg Value.bool (by rw [decide_eq_false h16, decide_eq_false h17, decide_eq_false h18, decide_eq_false h19] <;> rfl)), trivial⟩)
    refine xn ?_
    refine cm_condB (by kernel_rfl) rfl (fun h20 => ?_) (fun h20 => ?_)
    ·skip
     refine cq ?_
     refine cr ?_
     refine lv 62 (by kernel_rfl) (fun w1 c1 => (op_build (z := [.int .i64 0, .int .i64 0]) (tab := [(0, 1), (1, 1)]) (cs := [.int .i64 _, .int .i64 _]) [] (by kernel_rfl) (by kernel_rfl) fillOk_nil rfl)) ?_
     refine lm_storeA 0 [.int .i64 _, .int .i64 _] [_, _] (H' := [blkE _ _ [_, _], _, _, _]) (by kernel_rfl) rfl rfl (by kernel_rfl) rfl rfl (by kernel_rfl) rfl rfl ?_
     refine lv 9 (by kernel_rfl) (fun w1 c1 => (oa (v := .int .i64 _) rfl)) ?_
     refine ln ?_
     refine xn ?_
     refine cm_ret ?_
     refine xm_thenR ?_
     exact xm_retCT rfl (by kernel_rfl) (show _ = Value.pointer (some ⟨_, 0, none⟩) from rfl) (by kernel_rfl) (fun w1 c1 => c1.cells 0 (ds := [.int .i64 _, .int .i64 _]) rfl rfl) (by kernel_rfl) (show _ = Value.int .i64 _ from rfl) fun w1 c1 => ⟨(), rfl, hsub [] (by kernel_rfl) rfl w1 c1⟩
    ·skip
     refine cm_skip ?_
     refine xn ?_
     refine cq ?_
     refine cr ?_
     refine lv 63 (by kernel_rfl) (fun w1 c1 => (op_loadR [.int .i64 _, .int .i64 _, .int .i64 _, .int .i64 _, .slice _ _ _, .int .i64 _] rfl (by kernel_rfl) (c1.cells 2 rfl rfl))) ?_
     refine lm_call 64 (V := (fun (r : Int) (_u : Unit) => .int .i64 r)) (HR := (fun (_r : Int) (_u : Unit) => [])) (by kernel_rfl) (fun w1 => op_call (by kernel_rfl)) (fun r1 hr1 w1 c1 => m_recyclingref57_items_ok N w1 p1 A_p11 n_p11 c_p11 (hr_p11.old c1) hz_p11 r1 hr1) ?_
     intro r21 u22
     refine lv 10 (by kernel_rfl) (fun w1 c1 => (oa (v := .int .i64 _) rfl)) ?_
     refine ln ?_
     refine xn ?_
     refine cq ?_
     refine cq ?_
     refine cr ?_
     refine lv 65 (by kernel_rfl) (fun w1 c1 => (om (v := .int .i64 _) rfl)) ?_
     refine lv 66 (by kernel_rfl) (fun w1 c1 => (op_neq rfl rfl)) ?_
     refine ln ?_
     refine xn ?_
     refine cm_cond (by kernel_rfl) rfl (fun h23 => ?_) (fun h23 => ?_)
     ·skip
      refine cq ?_
      refine cr ?_
      refine lv 67 (by kernel_rfl) (fun w1 c1 => (op_build (z := [.int .i64 0, .int .i64 0]) (tab := [(0, 1), (1, 1)]) (cs := [.int .i64 _, .int .i64 _]) [] (by kernel_rfl) (by kernel_rfl) fillOk_nil rfl)) ?_
      refine lv 68 (by kernel_rfl) (fun w1 c1 => (om (v := .int .i64 _) rfl)) ?_
      refine lm_storeA 0 [.int .i64 _, .int .i64 _] [_, _] (H' := [blkE _ _ [_, _], _, _, _]) (by kernel_rfl) rfl rfl (by kernel_rfl) rfl rfl (by kernel_rfl) rfl rfl ?_
      refine lv 9 (by kernel_rfl) (fun w1 c1 => (oa (v := .int .i64 _) rfl)) ?_
      refine ln ?_
      refine xn ?_
      refine cm_ret ?_
      refine xm_thenR ?_
      exact xm_retCT rfl (by kernel_rfl) (show _ = Value.pointer (some ⟨_, 0, none⟩) from rfl) (by kernel_rfl) (fun w1 c1 => c1.cells 0 (ds := [.int .i64 _, .int .i64 _]) rfl rfl) (by kernel_rfl) (show _ = Value.int .i64 _ from rfl) fun w1 c1 => ⟨(), rfl, hsub [] (by kernel_rfl) rfl w1 c1⟩
     ·skip
      refine cm_skip ?_
      refine xn ?_
      refine cq ?_
      refine cr ?_
      refine lv 70 (by kernel_rfl) (fun w1 c1 => (op_loadR [.int .i64 _, .int .i64 _, .int .i64 _, .int .i64 _, .slice _ _ _, .int .i64 _] rfl (by kernel_rfl) (c1.cells 2 rfl rfl))) ?_
      refine lv 71 (by kernel_rfl) (fun w1 c1 => (op_loadR [.int .i64 _, .int .i64 _, .int .i64 _, .int .i64 _] rfl (by kernel_rfl) (c1.cells 1 rfl rfl))) ?_
      refine lm_call 72 (V := (fun (r : ApiItem × Bool) (_u : Unit) => .tuple #[.agg #[.int .i64 r.1.Kind, .int .i64 r.1.Ref, .int .i64 r.1.Count, .int .i64 r.1.Price, .int .i64 r.1.Amount], .bool r.2])) (HR := (fun (_r : ApiItem × Bool) (_u : Unit) => [])) (by kernel_rfl) (fun w1 => op_call (by kernel_rfl)) (fun r1 hr1 w1 c1 => m_recyclingref57_disputed_ok N w1 p1 p2 A_p11 n_p11 c_p11 (hr_p11.old c1) hz_p11 r1 hr1) ?_
      intro r24 u25
      refine lv 69 (by kernel_rfl) (fun w1 c1 => (om (v := .tuple _) rfl)) ?_
      refine lv 73 (by kernel_rfl) (fun w1 c1 => (op_extract (v := .agg _) rfl rfl)) ?_
      refine lv 74 (by kernel_rfl) (fun w1 c1 => (op_extract (v := .bool _) rfl rfl)) ?_
      refine lm_alloc 11 [.int .i64 0, .int .i64 0, .int .i64 0, .int .i64 0, .int .i64 0] (v := .agg #[.int .i64 0, .int .i64 0, .int .i64 0, .int .i64 0, .int .i64 0]) (by kernel_rfl) (by kernel_rfl) rfl ?_
      intro b26
      refine lm_storeA 0 [.int .i64 _, .int .i64 _, .int .i64 _, .int .i64 _, .int .i64 _] [_, _, _, _, _] (H' := [blkE _ _ [_, _, _, _, _], _, _, _, _]) (by kernel_rfl) rfl rfl (by kernel_rfl) rfl rfl (by kernel_rfl) rfl rfl ?_
      refine lv 12 (by kernel_rfl) (fun w1 c1 => (oa (v := .bool _) rfl)) ?_
      refine ln ?_
      refine xn ?_
      refine cq ?_
      refine cq ?_
      refine cr ?_
      refine lv 75 (by kernel_rfl) (fun w1 c1 => (om (v := .bool _) rfl)) ?_
      refine lv 76 (by kernel_rfl) (fun w1 c1 => (op_not rfl)) ?_
      refine ln ?_
      refine xn ?_
      refine cm_condB (by kernel_rfl) rfl (fun h27 => ?_) (fun h27 => ?_)
      ·skip
       refine cq ?_
       refine cr ?_
       refine lv 77 (by kernel_rfl) (fun w1 c1 => (op_build (z := [.int .i64 0, .int .i64 0]) (tab := [(0, 1), (1, 1)]) (cs := [.int .i64 _, .int .i64 _]) [(1, [.int .i64 _])] (by kernel_rfl) (by kernel_rfl) (fillOk_cons rfl rfl rfl fillOk_nil) rfl)) ?_
       refine lm_storeA 1 [.int .i64 _, .int .i64 _] [_, _] (H' := [_, blkE _ _ [_, _], _, _, _]) (by kernel_rfl) rfl rfl (by kernel_rfl) rfl rfl (by kernel_rfl) rfl rfl ?_
       refine lv 9 (by kernel_rfl) (fun w1 c1 => (oa (v := .int .i64 _) rfl)) ?_
       refine ln ?_
       refine xn ?_
       refine cm_ret ?_
       refine xm_thenR ?_
       exact xm_retCT rfl (by kernel_rfl) (show _ = Value.pointer (some ⟨_, 0, none⟩) from rfl) (by kernel_rfl) (fun w1 c1 => c1.cells 1 (ds := [.int .i64 _, .int .i64 _]) rfl rfl) (by kernel_rfl) (show _ = Value.int .i64 _ from rfl) fun w1 c1 => ⟨(), rfl, hsub [] (by kernel_rfl) rfl w1 c1⟩
      ·skip
       refine cm_skip ?_
       refine xn ?_
       refine cq ?_
       refine cr ?_
       refine lv 79 (by kernel_rfl) (fun w1 c1 => (op_loadR [.int .i64 _, .int .i64 _, .int .i64 _, .int .i64 _, .slice _ _ _, .int .i64 _] rfl (by kernel_rfl) (c1.cells 3 rfl rfl))) ?_
       refine lv 80 (by kernel_rfl) (fun w1 c1 => (oF (m := 1) (k := 1) rfl (by kernel_rfl) rfl)) ?_
       refine lv 81 (by kernel_rfl) (fun w1 c1 => (ol rfl (by kernel_rfl) (c1.cell 0 (u := .int .i64 _) rfl rfl))) ?_
       refine lm_call 82 (V := (fun (r : Int × Int) (_u : Unit) => .tuple #[.int .i64 r.1, .int .i64 r.2])) (HR := (fun (_r : Int × Int) (_u : Unit) => [])) (by kernel_rfl) (fun w1 => op_call (by kernel_rfl)) (fun r1 hr1 w1 c1 => m_recyclingref57_Rest_ok N w1 p1 r24.1.Ref A_p11 n_p11 c_p11 (hr_p11.old c1) hz_p11 r1 hr1) ?_
       intro r28 u29
       refine lv 78 (by kernel_rfl) (fun w1 c1 => (om (v := .tuple _) rfl)) ?_
       refine lv 83 (by kernel_rfl) (fun w1 c1 => (op_extract (v := .int .i64 _) rfl rfl)) ?_
       refine lv 84 (by kernel_rfl) (fun w1 c1 => (op_extract (v := .int .i64 _) rfl rfl)) ?_
       refine lv 13 (by kernel_rfl) (fun w1 c1 => (oa (v := .int .i64 _) rfl)) ?_
       refine lv 10 (by kernel_rfl) (fun w1 c1 => (oa (v := .int .i64 _) rfl)) ?_
       refine ln ?_
       refine xn ?_
       refine cq ?_
       refine cr ?_
       refine lv 85 (by kernel_rfl) (fun w1 c1 => (oF (m := 3) (k := 3) rfl (by kernel_rfl) rfl)) ?_
       refine lv 86 (by kernel_rfl) (fun w1 c1 => (ol rfl (by kernel_rfl) (c1.cell 4 (u := .slice _ _ _) rfl rfl))) ?_
       refine lv 87 (by kernel_rfl) (fun w1 c1 => (oF (m := 1) (k := 1) rfl (by kernel_rfl) rfl)) ?_
       refine lv 88 (by kernel_rfl) (fun w1 c1 => (ol rfl (by kernel_rfl) (c1.cell 0 (u := .int .i64 _) rfl rfl))) ?_
       refine lm_call 89 (V := (fun (r : Int) (_u : Unit) => .int .i64 r)) (HR := (fun (_r : Int) (_u : Unit) => [])) (by kernel_rfl) (fun w1 => op_call (by kernel_rfl)) (fun r1 hr1 w1 c1 => m_recyclingref57_record_ok N w1 p0.Emptyings r24.1.Ref A_p04 n_p04 c_p04 (hr_p04.old c1) hz_p04 r1 hr1) ?_
       intro r30 u31
       refine lv 14 (by kernel_rfl) (fun w1 c1 => (oa (v := .int .i64 _) rfl)) ?_
       refine ln ?_
       refine xn ?_
       refine cq ?_
       refine cq ?_
       refine cm_cutE [(95, .bool ((decide (r28.2 ≠ 0)) || (decide (r30 < 0))))] ?_ ?_
       ·skip
        refine wv 90 (by kernel_rfl) (fun w1 c1 => (om (v := .int .i64 _) rfl)) ?_
        refine wq_dec 91 (by kernel_rfl) (fun w1 c1 => (op_neq rfl rfl)) (fun h32 => ?_) (fun h32 => ?_)
        ·skip
         refine wv 92 (by kernel_rfl) (fun w1 c1 => (om (v := .bool true) rfl)) ?_
         refine wk 93 (by kernel_rfl) ?_
         refine wk 94 (by kernel_rfl) ?_
         refine wv 95 (by kernel_rfl) (fun w1 c1 => (opt (v := .bool true) rfl rfl)) ?_
         exact leaf_q (sub_out 6 _ rfl (by kernel_rfl) ⟨(congrArg Value.bool (by rw [decide_eq_true h32] <;> rfl)), trivial⟩)
        ·skip
         refine wv 92 (by kernel_rfl) (fun w1 c1 => (om (v := .bool false) rfl)) ?_
         refine wv 93 (by kernel_rfl) (fun w1 c1 => (om (v := .int .i64 _) rfl)) ?_
         refine wv 94 (by kernel_rfl) (fun w1 c1 => (op_lss rfl rfl)) ?_
         refine wv 95 (by kernel_rfl) (fun w1 c1 => (opf (v := .bool _) rfl rfl)) ?_
         exact leaf_q (sub_out 6 _ rfl (by kernel_rfl) ⟨(congrArg Value.bool (by rw [decide_eq_false h32] <;> rfl)), trivial⟩)
       refine xn ?_
       refine cm_condB (by kernel_rfl) rfl (fun h33 => ?_) (fun h33 => ?_)
       ·skip
        refine cq ?_
        refine cr ?_
        refine lv 96 (by kernel_rfl) (fun w1 c1 => (op_build (z := [.int .i64 0, .int .i64 0]) (tab := [(0, 1), (1, 1)]) (cs := [.int .i64 _, .int .i64 _]) [(1, [.int .i64 _])] (by kernel_rfl) (by kernel_rfl) (fillOk_cons rfl rfl rfl fillOk_nil) rfl)) ?_
        refine lm_storeA 1 [.int .i64 _, .int .i64 _] [_, _] (H' := [_, blkE _ _ [_, _], _, _, _]) (by kernel_rfl) rfl rfl (by kernel_rfl) rfl rfl (by kernel_rfl) rfl rfl ?_
        refine lv 9 (by kernel_rfl) (fun w1 c1 => (oa (v := .int .i64 _) rfl)) ?_
        refine ln ?_
        refine xn ?_
        refine cm_ret ?_
        refine xm_thenR ?_
        exact xm_retCT rfl (by kernel_rfl) (show _ = Value.pointer (some ⟨_, 0, none⟩) from rfl) (by kernel_rfl) (fun w1 c1 => c1.cells 1 (ds := [.int .i64 _, .int .i64 _]) rfl rfl) (by kernel_rfl) (show _ = Value.int .i64 _ from rfl) fun w1 c1 => ⟨(), rfl, hsub [] (by kernel_rfl) rfl w1 c1⟩
       ·skip
        refine cm_skip ?_
        refine xn ?_
        refine cq ?_
        refine cm_ck (fun h34 => ?_)
        refine cm_ck (fun h35 => ?_)
        refine cm_bind fun r36 h37 => ?_
        refine cm_drawn [(10, .int .i64 r36.2), (15, .int .i64 r36.1)] (by kernel_rfl) (by kernel_rfl) ?_ ?_
        ·skip
         refine wv 98 (by kernel_rfl) (fun w1 c1 => (oF (m := 4) (k := 4) rfl (by kernel_rfl) rfl)) ?_
         refine wv 99 (by kernel_rfl) (fun w1 c1 => (ol rfl (by kernel_rfl) (c1.cell 4 (u := .slice _ _ _) rfl rfl))) ?_
         refine wv 100 (by kernel_rfl) (fun w1 c1 => (oF (m := 3) (k := 3) rfl (by kernel_rfl) rfl)) ?_
         refine wv 101 (by kernel_rfl) (fun w1 c1 => (ol rfl (by kernel_rfl) (c1.cell 4 (u := .slice _ _ _) rfl rfl))) ?_
         refine wv 102 (by kernel_rfl) (fun w1 c1 => (om (v := .int .i64 _) rfl)) ?_
         refine wv 103 (by kernel_rfl) (fun w1 c1 => (op_indexA 7 rfl rfl (by kernel_rfl) ((hr_p04.old c1).addr h34.1 h34.2) hz_p04.2.2 h34.1 h34.2)) ?_
         refine wv 104 (by kernel_rfl) (fun w1 c1 => (op_field (m := 3) rfl (by kernel_rfl))) ?_
         refine wv 105 (by kernel_rfl) (fun w1 c1 => (ol (v := .int .i64 ((ix p0.Emptyings r30).At)) rfl (by kernel_rfl) ((hr_p04.old c1).cell (j := 3) h34.1 h34.2 rfl))) ?_
         refine wv 106 (by kernel_rfl) (fun w1 c1 => (op_quoK rfl rfl (by kernel_rfl) h35)) ?_
         refine wq_call 107 (by kernel_rfl) (fun w1 c1 => op_call (by kernel_rfl)) (fun w1 c1 => (m_recyclingref53_At_ok N w1 p0.Tariffs (Int.tdiv ((ix p0.Emptyings r30).At) 86400) A_p05 n_p05 c_p05 (hr_p05.old c1) hz_p05 r36 h37).mono (fun _ _ ⟨_, hx, hu⟩ => ⟨hx, c1.call hu⟩)) ?_
         refine wv 97 (by kernel_rfl) (fun w1 c1 => (om (v := .tuple _) rfl)) ?_
         refine wv 108 (by kernel_rfl) (fun w1 c1 => (op_extract (v := .int .i64 _) rfl rfl)) ?_
         refine wv 109 (by kernel_rfl) (fun w1 c1 => (op_extract (v := .int .i64 _) rfl rfl)) ?_
         refine wv 15 (by kernel_rfl) (fun w1 c1 => (oa (v := .int .i64 _) rfl)) ?_
         refine wv 10 (by kernel_rfl) (fun w1 c1 => (oa (v := .int .i64 _) rfl)) ?_
         exact leaf_q (sub_out 15 _ rfl (by kernel_rfl) ⟨rfl, rfl, trivial⟩)
        refine xn ?_
        refine cq ?_
        refine cq ?_
        refine cr ?_
        refine lv 110 (by kernel_rfl) (fun w1 c1 => (om (v := .int .i64 _) rfl)) ?_
        refine lv 111 (by kernel_rfl) (fun w1 c1 => (op_neq rfl rfl)) ?_
        refine ln ?_
        refine xn ?_
        refine cm_cond (by kernel_rfl) rfl (fun h38 => ?_) (fun h38 => ?_)
        ·skip
         refine cq ?_
         refine cr ?_
         refine lv 112 (by kernel_rfl) (fun w1 c1 => (op_build (z := [.int .i64 0, .int .i64 0]) (tab := [(0, 1), (1, 1)]) (cs := [.int .i64 _, .int .i64 _]) [(1, [.int .i64 _])] (by kernel_rfl) (by kernel_rfl) (fillOk_cons rfl rfl rfl fillOk_nil) rfl)) ?_
         refine lm_storeA 1 [.int .i64 _, .int .i64 _] [_, _] (H' := [_, blkE _ _ [_, _], _, _, _]) (by kernel_rfl) rfl rfl (by kernel_rfl) rfl rfl (by kernel_rfl) rfl rfl ?_
         refine lv 9 (by kernel_rfl) (fun w1 c1 => (oa (v := .int .i64 _) rfl)) ?_
         refine ln ?_
         refine xn ?_
         refine cm_ret ?_
         refine xm_thenR ?_
         exact xm_retCT rfl (by kernel_rfl) (show _ = Value.pointer (some ⟨_, 0, none⟩) from rfl) (by kernel_rfl) (fun w1 c1 => c1.cells 1 (ds := [.int .i64 _, .int .i64 _]) rfl rfl) (by kernel_rfl) (show _ = Value.int .i64 _ from rfl) fun w1 c1 => ⟨(), rfl, hsub [] (by kernel_rfl) rfl w1 c1⟩
        ·skip
         refine cm_skip ?_
         refine xn ?_
         refine cq ?_
         refine cq ?_
         refine cr ?_
         refine lv 113 (by kernel_rfl) (fun w1 c1 => (oF (m := 2) (k := 2) rfl (by kernel_rfl) rfl)) ?_
         refine lv 114 (by kernel_rfl) (fun w1 c1 => (ol rfl (by kernel_rfl) (c1.cell 2 (u := .int .i64 _) rfl rfl))) ?_
         refine lv 115 (by kernel_rfl) (fun w1 c1 => (oF (m := 2) (k := 2) rfl (by kernel_rfl) rfl)) ?_
         refine lv 116 (by kernel_rfl) (fun w1 c1 => (oF (m := 1) (k := 3) rfl (by kernel_rfl) rfl)) ?_
         refine lv 117 (by kernel_rfl) (fun w1 c1 => (ol rfl (by kernel_rfl) (c1.cell 3 (u := .int .i64 _) rfl rfl))) ?_
         refine lv 118 (by kernel_rfl) (fun w1 c1 => (om (v := .int .i64 _) rfl)) ?_
         refine lm_ck (fun h39 => ?_)
         refine lv 119 (by kernel_rfl) (fun w1 c1 => (op_add rfl rfl h39)) ?_
         refine lm_ck (fun h40 => ?_)
         refine lv 120 (by kernel_rfl) (fun w1 c1 => (op_mul rfl rfl h40)) ?_
         refine lv 121 (by kernel_rfl) (fun w1 c1 => (op_gtr rfl rfl)) ?_
         refine ln ?_
         refine xn ?_
         refine cm_cond (by kernel_rfl) rfl (fun h41 => ?_) (fun h41 => ?_)
         ·skip
          refine cq ?_
          refine cr ?_
          refine lv 122 (by kernel_rfl) (fun w1 c1 => (op_build (z := [.int .i64 0, .int .i64 0]) (tab := [(0, 1), (1, 1)]) (cs := [.int .i64 _, .int .i64 _]) [(1, [.int .i64 _])] (by kernel_rfl) (by kernel_rfl) (fillOk_cons rfl rfl rfl fillOk_nil) rfl)) ?_
          refine lm_storeA 1 [.int .i64 _, .int .i64 _] [_, _] (H' := [_, blkE _ _ [_, _], _, _, _]) (by kernel_rfl) rfl rfl (by kernel_rfl) rfl rfl (by kernel_rfl) rfl rfl ?_
          refine lv 9 (by kernel_rfl) (fun w1 c1 => (oa (v := .int .i64 _) rfl)) ?_
          refine ln ?_
          refine xn ?_
          refine cm_ret ?_
          refine xm_thenR ?_
          exact xm_retCT rfl (by kernel_rfl) (show _ = Value.pointer (some ⟨_, 0, none⟩) from rfl) (by kernel_rfl) (fun w1 c1 => c1.cells 1 (ds := [.int .i64 _, .int .i64 _]) rfl rfl) (by kernel_rfl) (show _ = Value.int .i64 _ from rfl) fun w1 c1 => ⟨(), rfl, hsub [] (by kernel_rfl) rfl w1 c1⟩
         ·skip
          refine cm_skip ?_
          refine xn ?_
          refine cq ?_
          refine cr ?_
          refine lv 123 (by kernel_rfl) (fun w1 c1 => (op_loadR [.slice _ _ _, .slice _ _ _, .slice _ _ _, .slice _ _ _, .slice _ _ _, .int .i64 _] rfl (by kernel_rfl) (c1.cells 4 rfl rfl))) ?_
          refine lv 124 (by kernel_rfl) (fun w1 c1 => (op_loadR [.int .i64 _, .int .i64 _, .int .i64 _, .int .i64 _, .int .i64 _] rfl (by kernel_rfl) (c1.cells 0 rfl rfl))) ?_
          refine lv 125 (by kernel_rfl) (fun w1 c1 => (om (v := .int .i64 _) rfl)) ?_
          refine lv 126 (by kernel_rfl) (fun w1 c1 => (om (v := .int .i64 _) rfl)) ?_
          refine lv 127 (by kernel_rfl) (fun w1 c1 => (oF (m := 3) (k := 3) rfl (by kernel_rfl) rfl)) ?_
          refine lv 128 (by kernel_rfl) (fun w1 c1 => (ol rfl (by kernel_rfl) (c1.cell 2 (u := .int .i64 _) rfl rfl))) ?_
          refine lv 129 (by kernel_rfl) (fun w1 c1 => (om (v := .int .i64 _) rfl)) ?_
          refine lm_call 130 (V := (fun (r : Int) (_u : Unit) => .int .i64 r)) (HR := (fun (_r : Int) (_u : Unit) => [])) (by kernel_rfl) (fun w1 => op_call (by kernel_rfl)) (fun r1 hr1 w1 c1 => m_recyclingref57_credit_ok N w1 p0 r24.1 r30 r36.1 p2.Kind r28.1 A_p01 n_p01 c_p01 A_p02 n_p02 c_p02 A_p03 n_p03 c_p03 A_p04 n_p04 c_p04 A_p05 n_p05 c_p05 (hr_p01.old c1) hz_p01 (hr_p02.old c1) hz_p02 (hr_p03.old c1) hz_p03 (hr_p04.old c1) hz_p04 (hr_p05.old c1) hz_p05 r1 hr1) ?_
          intro r42 u43
          refine lv 16 (by kernel_rfl) (fun w1 c1 => (oa (v := .int .i64 _) rfl)) ?_
          refine ln ?_
          refine xn ?_
          refine cq ?_
          refine cq ?_
          refine cr ?_
          refine lv 131 (by kernel_rfl) (fun w1 c1 => (om (v := .int .i64 _) rfl)) ?_
          refine lv 132 (by kernel_rfl) (fun w1 c1 => (op_leq rfl rfl)) ?_
          refine ln ?_
          refine xn ?_
          refine cm_cond (by kernel_rfl) rfl (fun h44 => ?_) (fun h44 => ?_)
          ·skip
           refine cq ?_
           refine cr ?_
           refine lv 133 (by kernel_rfl) (fun w1 c1 => (op_build (z := [.int .i64 0, .int .i64 0]) (tab := [(0, 1), (1, 1)]) (cs := [.int .i64 _, .int .i64 _]) [(1, [.int .i64 _])] (by kernel_rfl) (by kernel_rfl) (fillOk_cons rfl rfl rfl fillOk_nil) rfl)) ?_
           refine lm_storeA 1 [.int .i64 _, .int .i64 _] [_, _] (H' := [_, blkE _ _ [_, _], _, _, _]) (by kernel_rfl) rfl rfl (by kernel_rfl) rfl rfl (by kernel_rfl) rfl rfl ?_
           refine lv 9 (by kernel_rfl) (fun w1 c1 => (oa (v := .int .i64 _) rfl)) ?_
           refine ln ?_
           refine xn ?_
           refine cm_ret ?_
           refine xm_thenR ?_
           exact xm_retCT rfl (by kernel_rfl) (show _ = Value.pointer (some ⟨_, 0, none⟩) from rfl) (by kernel_rfl) (fun w1 c1 => c1.cells 1 (ds := [.int .i64 _, .int .i64 _]) rfl rfl) (by kernel_rfl) (show _ = Value.int .i64 _ from rfl) fun w1 c1 => ⟨(), rfl, hsub [] (by kernel_rfl) rfl w1 c1⟩
          ·skip
           refine cm_skip ?_
           refine xn ?_
           refine cq ?_
           refine cr ?_
           refine lv 134 (by kernel_rfl) (fun w1 c1 => (om (v := .int .i64 _) rfl)) ?_
           refine lv 135 (by kernel_rfl) (fun w1 c1 => (op_build (z := [.int .i64 0, .int .i64 0]) (tab := [(0, 1), (1, 1)]) (cs := [.int .i64 _, .int .i64 _]) [(0, [.int .i64 _])] (by kernel_rfl) (by kernel_rfl) (fillOk_cons rfl rfl rfl fillOk_nil) rfl)) ?_
           refine lm_storeA 1 [.int .i64 _, .int .i64 _] [_, _] (H' := [_, blkE _ _ [_, _], _, _, _]) (by kernel_rfl) rfl rfl (by kernel_rfl) rfl rfl (by kernel_rfl) rfl rfl ?_
           refine lv 9 (by kernel_rfl) (fun w1 c1 => (oa (v := .int .i64 _) rfl)) ?_
           refine ln ?_
           refine xn ?_
           refine cm_ret ?_
           exact xm_retCT rfl (by kernel_rfl) (show _ = Value.pointer (some ⟨_, 0, none⟩) from rfl) (by kernel_rfl) (fun w1 c1 => c1.cells 1 (ds := [.int .i64 _, .int .i64 _]) rfl rfl) (by kernel_rfl) (show _ = Value.int .i64 _ from rfl) fun w1 c1 => ⟨(), rfl, hsub [] (by kernel_rfl) rfl w1 c1⟩
end Go.Proofs.YtljogldcejcikaaGreat
