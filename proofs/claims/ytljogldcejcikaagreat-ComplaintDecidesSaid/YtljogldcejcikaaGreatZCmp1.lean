/- Models of functions, and that the code follows them. Written by deco.py. -/
import Derived.Test.YtljogldcejcikaaGreatZEmp2
namespace Go.Proofs.YtljogldcejcikaaGreat
open Go.RowKit

/-- ident.letter -/
def m_ident_letter (_N : Nat) (p0 : Int) : Option (Bool) :=
 some ((((decide (97 ≤ p0)) && (decide (p0 ≤ 122))) || ((decide (65 ≤ p0)) && (decide (p0 ≤ 90)))))
set_option maxRecDepth 20000 in
theorem m_ident_letter_ok (N : Nat) (w0 : World) (p0 : Int)   (r : Bool) (hr : m_ident_letter N p0 = some r) :
  Calls Tryz.prog 71 [.int .u8 p0].toArray w0 fun x w1 => ∃ u, x = .returned ((fun (r : Bool) (_u : Unit) => .bool r) r u) ∧ Hs w0 ((fun (_r : Bool) (_u : Unit) => []) r u) w1 := by
 refine calls_cm (n := 17) (R := fun r x w1 => ∃ u, x = .returned ((fun (r : Bool) (_u : Unit) => .bool r) r u) ∧ Hs w0 ((fun (_r : Bool) (_u : Unit) => []) r u) w1) Tryz.func71 rfl rfl (Nat.le_of_ble_eq_true rfl) ?_ r hr
 unfold m_ident_letter
 refine cq ?_
 refine cr ?_
 refine lv 2 (by kernel_rfl) (fun w1 c1 => (oa (v := .bool false) rfl)) ?_
 refine ln ?_
 refine xn ?_
 refine cq ?_
 refine cm_cutE [(2, .bool (((decide (97 ≤ p0)) && (decide (p0 ≤ 122))) || ((decide (65 ≤ p0)) && (decide (p0 ≤ 90)))))] ?_ ?_
 ·skip
  refine wv 3 (by kernel_rfl) (fun w1 c1 => (om (v := .int .u8 _) rfl)) ?_
  refine wq_dec 4 (by kernel_rfl) (fun w1 c1 => (op_geqK rfl rfl)) (fun h5 => ?_) (fun h5 => ?_)
  ·skip
   refine wv 5 (by kernel_rfl) (fun w1 c1 => (om (v := .bool true) rfl)) ?_
   refine wv 6 (by kernel_rfl) (fun w1 c1 => (om (v := .int .u8 _) rfl)) ?_
   refine wq_dec 7 (by kernel_rfl) (fun w1 c1 => (op_leqK rfl rfl)) (fun h6 => ?_) (fun h6 => ?_)
   ·skip
    refine wv 8 (by kernel_rfl) (fun w1 c1 => (opt (v := .bool true) rfl rfl)) ?_
    refine wv 9 (by kernel_rfl) (fun w1 c1 => (om (v := .bool true) rfl)) ?_
    refine wk 10 (by kernel_rfl) ?_
    refine wk 11 (by kernel_rfl) ?_
    refine wk 12 (by kernel_rfl) ?_
    refine wk 13 (by kernel_rfl) ?_
    refine wk 14 (by kernel_rfl) ?_
    refine wk 15 (by kernel_rfl) ?_
    refine wv 16 (by kernel_rfl) (fun w1 c1 => (opt (v := .bool true) rfl rfl)) ?_
    refine wv 2 (by kernel_rfl) (fun w1 c1 => (oa (v := .bool true) rfl)) ?_
    exact leaf_q (sub_out 15 _ rfl (by kernel_rfl) ⟨(congrArg Value.bool (by rw [decide_eq_true h5, decide_eq_true h6] <;> rfl)), trivial⟩)
   ·skip
    refine wv 8 (by kernel_rfl) (fun w1 c1 => (opt (v := .bool false) rfl rfl)) ?_
    refine wv 9 (by kernel_rfl) (fun w1 c1 => (om (v := .bool false) rfl)) ?_
    refine wv 10 (by kernel_rfl) (fun w1 c1 => (om (v := .int .u8 _) rfl)) ?_
    refine wq_dec 11 (by kernel_rfl) (fun w1 c1 => (op_geqK rfl rfl)) (fun h7 => ?_) (fun h7 => ?_)
    ·skip
     refine wv 12 (by kernel_rfl) (fun w1 c1 => (om (v := .bool true) rfl)) ?_
     refine wv 13 (by kernel_rfl) (fun w1 c1 => (om (v := .int .u8 _) rfl)) ?_
     refine wv 14 (by kernel_rfl) (fun w1 c1 => (op_leqK rfl rfl)) ?_
     refine wv 15 (by kernel_rfl) (fun w1 c1 => (opt (v := .bool _) rfl rfl)) ?_
     refine wv 16 (by kernel_rfl) (fun w1 c1 => (opf (v := .bool _) rfl rfl)) ?_
     refine wv 2 (by kernel_rfl) (fun w1 c1 => (oa (v := .bool _) rfl)) ?_
     exact leaf_q (sub_out 15 _ rfl (by kernel_rfl) ⟨(congrArg Value.bool (by rw [decide_eq_true h5, decide_eq_false h6, decide_eq_true h7] <;> rfl)), trivial⟩)
    ·skip
     refine wv 12 (by kernel_rfl) (fun w1 c1 => (om (v := .bool false) rfl)) ?_
     refine wk 13 (by kernel_rfl) ?_
     refine wk 14 (by kernel_rfl) ?_
     refine wv 15 (by kernel_rfl) (fun w1 c1 => (opf (v := .bool false) rfl rfl)) ?_
     refine wv 16 (by kernel_rfl) (fun w1 c1 => (opf (v := .bool false) rfl rfl)) ?_
     refine wv 2 (by kernel_rfl) (fun w1 c1 => (oa (v := .bool false) rfl)) ?_
     exact leaf_q (sub_out 15 _ rfl (by kernel_rfl) ⟨(congrArg Value.bool (by rw [decide_eq_true h5, decide_eq_false h6, decide_eq_false h7] <;> rfl)), trivial⟩)
  ·skip
   refine wv 5 (by kernel_rfl) (fun w1 c1 => (om (v := .bool false) rfl)) ?_
   refine wk 6 (by kernel_rfl) ?_
   refine wk 7 (by kernel_rfl) ?_
   refine wv 8 (by kernel_rfl) (fun w1 c1 => (opf (v := .bool false) rfl rfl)) ?_
   refine wv 9 (by kernel_rfl) (fun w1 c1 => (om (v := .bool false) rfl)) ?_
   refine wv 10 (by kernel_rfl) (fun w1 c1 => (om (v := .int .u8 _) rfl)) ?_
   refine wq_dec 11 (by kernel_rfl) (fun w1 c1 => (op_geqK rfl rfl)) (fun h8 => ?_) (fun h8 => ?_)
   ·skip
    refine wv 12 (by kernel_rfl) (fun w1 c1 => (om (v := .bool true) rfl)) ?_
    refine wv 13 (by kernel_rfl) (fun w1 c1 => (om (v := .int .u8 _) rfl)) ?_
    refine wv 14 (by kernel_rfl) (fun w1 c1 => (op_leqK rfl rfl)) ?_
    refine wv 15 (by kernel_rfl) (fun w1 c1 => (opt (v := .bool _) rfl rfl)) ?_
    refine wv 16 (by kernel_rfl) (fun w1 c1 => (opf (v := .bool _) rfl rfl)) ?_
    refine wv 2 (by kernel_rfl) (fun w1 c1 => (oa (v := .bool _) rfl)) ?_
    exact leaf_q (sub_out 15 _ rfl (by kernel_rfl) ⟨(congrArg Value.bool (by rw [decide_eq_false h5, decide_eq_true h8] <;> rfl)), trivial⟩)
   ·skip
    refine wv 12 (by kernel_rfl) (fun w1 c1 => (om (v := .bool false) rfl)) ?_
    refine wk 13 (by kernel_rfl) ?_
    refine wk 14 (by kernel_rfl) ?_
    refine wv 15 (by kernel_rfl) (fun w1 c1 => (opf (v := .bool false) rfl rfl)) ?_
    refine wv 16 (by kernel_rfl) (fun w1 c1 => (opf (v := .bool false) rfl rfl)) ?_
    refine wv 2 (by kernel_rfl) (fun w1 c1 => (oa (v := .bool false) rfl)) ?_
    exact leaf_q (sub_out 15 _ rfl (by kernel_rfl) ⟨(congrArg Value.bool (by rw [decide_eq_false h5, decide_eq_false h8] <;> rfl)), trivial⟩)
 refine xn ?_
 refine cm_ret ?_
 exact xm_retT rfl (by kernel_rfl) (show _ = Value.bool _ from rfl) fun w1 c1 => ⟨(), rfl, hsub [] (by kernel_rfl) rfl w1 c1⟩
/-- ident.Valid -/
def m_ident_Valid (N : Nat) (p0 : ByteArray) : Option (Bool) :=
 ck ((!((decide ((ByteArray.size p0 : Int) < 1)) || (decide (32 < (ByteArray.size p0 : Int))))) = true → (0 : Int) ≤ 0 ∧ 0 < (ByteArray.size p0 : Int)) (
  callIf ((!((decide ((ByteArray.size p0 : Int) < 1)) || (decide (32 < (ByteArray.size p0 : Int))))) = true) (m_ident_letter N (bget p0 (0 : Int))) fun r6 => (if (((decide ((ByteArray.size p0 : Int) < 1)) || (decide (32 < (ByteArray.size p0 : Int)))) || (!r6)) = true then
   some (false)
  else
   (andThen
    (loopM (fun (s88 : Int) =>
     (if s88 < (ByteArray.size p0 : Int) then
      ck ((0 : Int) ≤ s88 ∧ s88 < (ByteArray.size p0 : Int)) (
       Option.bind (m_ident_letter N (bget p0 s88)) fun r92 => (if (((((!r92) && ((decide ((bget p0 s88) < 48)) || (decide (57 < (bget p0 s88))))) && (decide ((bget p0 s88) ≠ 45))) && (decide ((bget p0 s88) ≠ 95))) && (decide ((bget p0 s88) ≠ 46))) = true then
        some (.done (.done (false)))
       else
        ck (I64 (s88 + (1 : Int))) (
         some (.next (s88 + (1 : Int))))))
     else
      some (.done (.next ())))) N (1 : Int))
   fun (_s56 : Unit) =>
    some (true))))
set_option maxHeartbeats 2000000 in
set_option maxRecDepth 20000 in
theorem m_ident_Valid_ok (N : Nat) (w0 : World) (p0 : ByteArray)   (r : Bool) (hr : m_ident_Valid N p0 = some r) :
  Calls Tryz.prog 63 [.string p0].toArray w0 fun x w1 => ∃ u, x = .returned ((fun (r : Bool) (_u : Unit) => .bool r) r u) ∧ Hs w0 ((fun (_r : Bool) (_u : Unit) => []) r u) w1 := by
 refine calls_cm (n := 51) (R := fun r x w1 => ∃ u, x = .returned ((fun (r : Bool) (_u : Unit) => .bool r) r u) ∧ Hs w0 ((fun (_r : Bool) (_u : Unit) => []) r u) w1) Tryz.func63 rfl rfl (Nat.le_of_ble_eq_true rfl) ?_ r hr
 unfold m_ident_Valid
 refine cq ?_
 refine cr ?_
 refine lv 2 (by kernel_rfl) (fun w1 c1 => (oa (v := .bool false) rfl)) ?_
 refine ln ?_
 refine xn ?_
 refine cq ?_
 refine cq ?_
 refine cm_ck (fun h5 => ?_)
 refine cm_callIf fun r6 h7 => ?_
 refine cm_cutE [(18, .bool (((decide ((ByteArray.size p0 : Int) < 1)) || (decide (32 < (ByteArray.size p0 : Int)))) || (!r6)))] ?_ ?_
 ·skip
  refine wv 5 (by kernel_rfl) (fun w1 c1 => (om (v := .string _) rfl)) ?_
  refine wv 6 (by kernel_rfl) (fun w1 c1 => (op_lenS rfl (by kernel_rfl))) ?_
  refine wq_dec 7 (by kernel_rfl) (fun w1 c1 => (op_lss rfl rfl)) (fun h8 => ?_) (fun h8 => ?_)
  ·skip
   refine wv 8 (by kernel_rfl) (fun w1 c1 => (om (v := .bool true) rfl)) ?_
   refine wk 9 (by kernel_rfl) ?_
   refine wk 10 (by kernel_rfl) ?_
   refine wk 11 (by kernel_rfl) ?_
   refine wv 12 (by kernel_rfl) (fun w1 c1 => (opt (v := .bool true) rfl rfl)) ?_
   refine wv 13 (by kernel_rfl) (fun w1 c1 => (om (v := .bool true) rfl)) ?_
   refine wk 14 (by kernel_rfl) ?_
   refine wk 15 (by kernel_rfl) ?_
   refine wk 16 (by kernel_rfl) ?_
   refine wk 17 (by kernel_rfl) ?_
   refine wv 18 (by kernel_rfl) (fun w1 c1 => (opt (v := .bool true) rfl rfl)) ?_
   exact leaf_q (sub_out 14 _ rfl (by kernel_rfl) ⟨(congrArg Value.bool (by rw [decide_eq_true h8] <;> rfl)), trivial⟩)
  ·skip
   refine wv 8 (by kernel_rfl) (fun w1 c1 => (om (v := .bool false) rfl)) ?_
   refine wv 9 (by kernel_rfl) (fun w1 c1 => (om (v := .string _) rfl)) ?_
   refine wv 10 (by kernel_rfl) (fun w1 c1 => (op_lenS rfl (by kernel_rfl))) ?_
   refine wq_dec 11 (by kernel_rfl) (fun w1 c1 => (op_gtr rfl rfl)) (fun h9 => ?_) (fun h9 => ?_)
   ·skip
    refine wv 12 (by kernel_rfl) (fun w1 c1 => (opf (v := .bool true) rfl rfl)) ?_
    refine wv 13 (by kernel_rfl) (fun w1 c1 => (om (v := .bool true) rfl)) ?_
    refine wk 14 (by kernel_rfl) ?_
    refine wk 15 (by kernel_rfl) ?_
    refine wk 16 (by kernel_rfl) ?_
    refine wk 17 (by kernel_rfl) ?_
    refine wv 18 (by kernel_rfl) (fun w1 c1 => (opt (v := .bool true) rfl rfl)) ?_
    exact leaf_q (sub_out 14 _ rfl (by kernel_rfl) ⟨(congrArg Value.bool (by rw [decide_eq_false h8, decide_eq_true h9] <;> rfl)), trivial⟩)
   ·skip
    refine wv 12 (by kernel_rfl) (fun w1 c1 => (opf (v := .bool false) rfl rfl)) ?_
    refine wv 13 (by kernel_rfl) (fun w1 c1 => (om (v := .bool false) rfl)) ?_
    refine wv 14 (by kernel_rfl) (fun w1 c1 => (om (v := .string _) rfl)) ?_
    refine wv 15 (by kernel_rfl) (fun w1 c1 => (op_indexS rfl rfl (by kernel_rfl) (h5 (by rw [decide_eq_false h8, decide_eq_false h9] <;> rfl)).1 (h5 (by rw [decide_eq_false h8, decide_eq_false h9] <;> rfl)).2)) ?_
    refine wq_call 16 (by kernel_rfl) (fun w1 c1 => op_call (by kernel_rfl)) (fun w1 c1 => (m_ident_letter_ok N w1 (bget p0 (0 : Int))  r6 (h7 (by rw [decide_eq_false h8, decide_eq_false h9] <;> rfl))).mono (fun _ _ ⟨_, hx, hu⟩ => ⟨hx, c1.call hu⟩)) ?_
    refine wv 17 (by kernel_rfl) (fun w1 c1 => (op_not rfl)) ?_
    refine wv 18 (by kernel_rfl) (fun w1 c1 => (opf (v := .bool _) rfl rfl)) ?_
    exact leaf_q (sub_out 14 _ rfl (by kernel_rfl) ⟨(congrArg Value.bool (by rw [decide_eq_false h8, decide_eq_false h9] <;> rfl)), trivial⟩)
 refine xn ?_
 refine cm_condB (by kernel_rfl) rfl (fun h10 => ?_) (fun h10 => ?_)
 ·skip
  refine cq ?_
  refine cr ?_
  refine lv 2 (by kernel_rfl) (fun w1 c1 => (oa (v := .bool false) rfl)) ?_
  refine ln ?_
  refine xn ?_
  refine cm_ret ?_
  refine xm_thenR ?_
  exact xm_retT rfl (by kernel_rfl) (show _ = Value.bool false from rfl) fun w1 c1 => ⟨(), rfl, hsub [] (by kernel_rfl) rfl w1 c1⟩
 ·skip
  refine cm_skip ?_
  refine xn ?_
  refine cm_join (σ := Unit) (ξ := Unit) (fun s56 u57 => []) (fun s56 u57 => []) ?_ ?_
  ·skip
   refine cq ?_
   refine cr ?_
   refine lv 3 (by kernel_rfl) (fun w1 c1 => (oa (v := .int .i64 _) rfl)) ?_
   refine ln ?_
   refine xn ?_
   refine cm_block ?_
   refine cm_loop (σ := Int) (ξ := Unit) (fun s88 u89 => [(0, .string p0), (3, .int .i64 s88)]) (fun s88 u89 => []) () ?_ ?_ ?_
   ·exact (sc (by kernel_rfl) rfl (sc (by kernel_rfl) rfl sub_nil))
   ·exact hsub [] (by kernel_rfl) rfl
   intro s88 u89
   refine cq ?_
   refine cq ?_
   refine cr ?_
   refine lv 19 (by kernel_rfl) (fun w1 c1 => (om (v := .int .i64 _) rfl)) ?_
   refine lv 20 (by kernel_rfl) (fun w1 c1 => (om (v := .string _) rfl)) ?_
   refine lv 21 (by kernel_rfl) (fun w1 c1 => (op_lenS rfl (by kernel_rfl))) ?_
   refine lv 22 (by kernel_rfl) (fun w1 c1 => (op_lss rfl rfl)) ?_
   refine ln ?_
   refine xn ?_
   refine cm_cond (by kernel_rfl) rfl (fun h90 => ?_) (fun h90 => ?_)
   ·skip
    refine cm_skip ?_
    refine xn ?_
    refine cq ?_
    refine cm_block ?_
    refine cq ?_
    refine cr ?_
    refine lv 25 (by kernel_rfl) (fun w1 c1 => (om (v := .string _) rfl)) ?_
    refine lv 26 (by kernel_rfl) (fun w1 c1 => (om (v := .int .i64 _) rfl)) ?_
    refine lm_ck (fun h91 => ?_)
    refine lv 27 (by kernel_rfl) (fun w1 c1 => (op_indexS rfl rfl (by kernel_rfl) h91.1 h91.2)) ?_
    refine lv 4 (by kernel_rfl) (fun w1 c1 => (oa (v := .int .u8 _) rfl)) ?_
    refine ln ?_
    refine xn ?_
    refine cq ?_
    refine cm_bind fun r92 h93 => ?_
    refine cm_cutE [(50, .bool (((((!r92) && ((decide ((bget p0 s88) < 48)) || (decide (57 < (bget p0 s88))))) && (decide ((bget p0 s88) ≠ 45))) && (decide ((bget p0 s88) ≠ 95))) && (decide ((bget p0 s88) ≠ 46))))] ?_ ?_
    ·skip
     refine wv 28 (by kernel_rfl) (fun w1 c1 => (om (v := .int .u8 _) rfl)) ?_
     refine wq_callb 29 (by kernel_rfl) (fun w1 c1 => op_call (by kernel_rfl)) (fun w1 c1 => (m_ident_letter_ok N w1 (bget p0 s88)  r92 h93).mono (fun _ _ ⟨_, hx, hu⟩ => ⟨hx, c1.call hu⟩)) (fun h94 => ?_) (fun h94 => ?_)
     ·skip
      refine wv 30 (by kernel_rfl) (fun w1 c1 => (op_nott rfl)) ?_
      refine wv 31 (by kernel_rfl) (fun w1 c1 => (om (v := .bool false) rfl)) ?_
      refine wk 32 (by kernel_rfl) ?_
      refine wk 33 (by kernel_rfl) ?_
      refine wk 34 (by kernel_rfl) ?_
      refine wk 35 (by kernel_rfl) ?_
      refine wk 36 (by kernel_rfl) ?_
      refine wk 37 (by kernel_rfl) ?_
      refine wv 38 (by kernel_rfl) (fun w1 c1 => (opf (v := .bool false) rfl rfl)) ?_
      refine wv 39 (by kernel_rfl) (fun w1 c1 => (om (v := .bool false) rfl)) ?_
      refine wk 40 (by kernel_rfl) ?_
      refine wk 41 (by kernel_rfl) ?_
      refine wv 42 (by kernel_rfl) (fun w1 c1 => (opf (v := .bool false) rfl rfl)) ?_
      refine wv 43 (by kernel_rfl) (fun w1 c1 => (om (v := .bool false) rfl)) ?_
      refine wk 44 (by kernel_rfl) ?_
      refine wk 45 (by kernel_rfl) ?_
      refine wv 46 (by kernel_rfl) (fun w1 c1 => (opf (v := .bool false) rfl rfl)) ?_
      refine wv 47 (by kernel_rfl) (fun w1 c1 => (om (v := .bool false) rfl)) ?_
      refine wk 48 (by kernel_rfl) ?_
      refine wk 49 (by kernel_rfl) ?_
      refine wv 50 (by kernel_rfl) (fun w1 c1 => (opf (v := .bool false) rfl rfl)) ?_
      exact leaf_q (sub_out 23 _ rfl (by kernel_rfl) ⟨(congrArg Value.bool (by rw [h94] <;> rfl)), trivial⟩)
     ·skip
      refine wv 30 (by kernel_rfl) (fun w1 c1 => (op_notf rfl)) ?_
      refine wv 31 (by kernel_rfl) (fun w1 c1 => (om (v := .bool true) rfl)) ?_
      refine wv 32 (by kernel_rfl) (fun w1 c1 => (om (v := .int .u8 _) rfl)) ?_
      refine wq_dec 33 (by kernel_rfl) (fun w1 c1 => (op_lssK rfl rfl)) (fun h95 => ?_) (fun h95 => ?_)
      ·skip
       refine wv 34 (by kernel_rfl) (fun w1 c1 => (om (v := .bool true) rfl)) ?_
       refine wk 35 (by kernel_rfl) ?_
       refine wk 36 (by kernel_rfl) ?_
       refine wv 37 (by kernel_rfl) (fun w1 c1 => (opt (v := .bool true) rfl rfl)) ?_
       refine wv 38 (by kernel_rfl) (fun w1 c1 => (opt (v := .bool true) rfl rfl)) ?_
       refine wv 39 (by kernel_rfl) (fun w1 c1 => (om (v := .bool true) rfl)) ?_
       refine wv 40 (by kernel_rfl) (fun w1 c1 => (om (v := .int .u8 _) rfl)) ?_
       refine wq_dec 41 (by kernel_rfl) (fun w1 c1 => (op_neqK rfl rfl)) (fun h96 => ?_) (fun h96 => ?_)
       ·skip
        refine wv 42 (by kernel_rfl) (fun w1 c1 => (opt (v := .bool true) rfl rfl)) ?_
        refine wv 43 (by kernel_rfl) (fun w1 c1 => (om (v := .bool true) rfl)) ?_
        refine wv 44 (by kernel_rfl) (fun w1 c1 => (om (v := .int .u8 _) rfl)) ?_
        refine wq_dec 45 (by kernel_rfl) (fun w1 c1 => (op_neqK rfl rfl)) (fun h97 => ?_) (fun h97 => ?_)
        ·skip
         refine wv 46 (by kernel_rfl) (fun w1 c1 => (opt (v := .bool true) rfl rfl)) ?_
         refine wv 47 (by kernel_rfl) (fun w1 c1 => (om (v := .bool true) rfl)) ?_
         refine wv 48 (by kernel_rfl) (fun w1 c1 => (om (v := .int .u8 _) rfl)) ?_
         refine wv 49 (by kernel_rfl) (fun w1 c1 => (op_neqK rfl rfl)) ?_
         refine wv 50 (by kernel_rfl) (fun w1 c1 => (opt (v := .bool _) rfl rfl)) ?_
         exact leaf_q (sub_out 23 _ rfl (by kernel_rfl) ⟨(congrArg Value.bool (by rw [h94, decide_eq_true h95, decide_eq_true h96, decide_eq_true h97] <;> rfl)), trivial⟩)
        ·skip
         refine wv 46 (by kernel_rfl) (fun w1 c1 => (opt (v := .bool false) rfl rfl)) ?_
         refine wv 47 (by kernel_rfl) (fun w1 c1 => (om (v := .bool false) rfl)) ?_
         refine wk 48 (by kernel_rfl) ?_
         refine wk 49 (by kernel_rfl) ?_
         refine wv 50 (by kernel_rfl) (fun w1 c1 => (opf (v := .bool false) rfl rfl)) ?_
         exact leaf_q (sub_out 23 _ rfl (by kernel_rfl) ⟨(congrArg Value.bool (by rw [h94, decide_eq_true h95, decide_eq_true h96, decide_eq_false h97] <;> rfl)), trivial⟩)
       ·skip
        refine wv 42 (by kernel_rfl) (fun w1 c1 => (opt (v := .bool false) rfl rfl)) ?_
        refine wv 43 (by kernel_rfl) (fun w1 c1 => (om (v := .bool false) rfl)) ?_
        refine wk 44 (by kernel_rfl) ?_
        refine wk 45 (by kernel_rfl) ?_
        refine wv 46 (by kernel_rfl) (fun w1 c1 => (opf (v := .bool false) rfl rfl)) ?_
        refine wv 47 (by kernel_rfl) (fun w1 c1 => (om (v := .bool false) rfl)) ?_
        refine wk 48 (by kernel_rfl) ?_
        refine wk 49 (by kernel_rfl) ?_
        refine wv 50 (by kernel_rfl) (fun w1 c1 => (opf (v := .bool false) rfl rfl)) ?_
        exact leaf_q (sub_out 23 _ rfl (by kernel_rfl) ⟨(congrArg Value.bool (by rw [h94, decide_eq_true h95, decide_eq_false h96] <;> rfl)), trivial⟩)
      ·skip
       refine wv 34 (by kernel_rfl) (fun w1 c1 => (om (v := .bool false) rfl)) ?_
       refine wv 35 (by kernel_rfl) (fun w1 c1 => (om (v := .int .u8 _) rfl)) ?_
       refine wq_dec 36 (by kernel_rfl) (fun w1 c1 => (op_gtrK rfl rfl)) (fun h98 => ?_) (fun h98 => ?_)
       ·skip
        refine wv 37 (by kernel_rfl) (fun w1 c1 => (opf (v := .bool true) rfl rfl)) ?_
        refine wv 38 (by kernel_rfl) (fun w1 c1 => (opt (v := .bool true) rfl rfl)) ?_
        refine wv 39 (by kernel_rfl) (fun w1 c1 => (om (v := .bool true) rfl)) ?_
        refine wv 40 (by kernel_rfl) (fun w1 c1 => (om (v := .int .u8 _) rfl)) ?_
        refine wq_dec 41 (by kernel_rfl) (fun w1 c1 => (op_neqK rfl rfl)) (fun h99 => ?_) (fun h99 => ?_)
        ·skip
         refine wv 42 (by kernel_rfl) (fun w1 c1 => (opt (v := .bool true) rfl rfl)) ?_
         refine wv 43 (by kernel_rfl) (fun w1 c1 => (om (v := .bool true) rfl)) ?_
         refine wv 44 (by kernel_rfl) (fun w1 c1 => (om (v := .int .u8 _) rfl)) ?_
         refine wq_dec 45 (by kernel_rfl) (fun w1 c1 => (op_neqK rfl rfl)) (fun h100 => ?_) (fun h100 => ?_)
         ·skip
          refine wv 46 (by kernel_rfl) (fun w1 c1 => (opt (v := .bool true) rfl rfl)) ?_
          refine wv 47 (by kernel_rfl) (fun w1 c1 => (om (v := .bool true) rfl)) ?_
          refine wv 48 (by kernel_rfl) (fun w1 c1 => (om (v := .int .u8 _) rfl)) ?_
          refine wv 49 (by kernel_rfl) (fun w1 c1 => (op_neqK rfl rfl)) ?_
          refine wv 50 (by kernel_rfl) (fun w1 c1 => (opt (v := .bool _) rfl rfl)) ?_
          exact leaf_q (sub_out 23 _ rfl (by kernel_rfl) ⟨(congrArg Value.bool (by rw [h94, decide_eq_false h95, decide_eq_true h98, decide_eq_true h99, decide_eq_true h100] <;> rfl)), trivial⟩)
         ·skip
          refine wv 46 (by kernel_rfl) (fun w1 c1 => (opt (v := .bool false) rfl rfl)) ?_
          refine wv 47 (by kernel_rfl) (fun w1 c1 => (om (v := .bool false) rfl)) ?_
          refine wk 48 (by kernel_rfl) ?_
          refine wk 49 (by kernel_rfl) ?_
          refine wv 50 (by kernel_rfl) (fun w1 c1 => (opf (v := .bool false) rfl rfl)) ?_
          exact leaf_q (sub_out 23 _ rfl (by kernel_rfl) ⟨(congrArg Value.bool (by rw [h94, decide_eq_false h95, decide_eq_true h98, decide_eq_true h99, decide_eq_false h100] <;> rfl)), trivial⟩)
        ·skip
         refine wv 42 (by kernel_rfl) (fun w1 c1 => (opt (v := .bool false) rfl rfl)) ?_
         refine wv 43 (by kernel_rfl) (fun w1 c1 => (om (v := .bool false) rfl)) ?_
         refine wk 44 (by kernel_rfl) ?_
         refine wk 45 (by kernel_rfl) ?_
         refine wv 46 (by kernel_rfl) (fun w1 c1 => (opf (v := .bool false) rfl rfl)) ?_
         refine wv 47 (by kernel_rfl) (fun w1 c1 => (om (v := .bool false) rfl)) ?_
         refine wk 48 (by kernel_rfl) ?_
         refine wk 49 (by kernel_rfl) ?_
         refine wv 50 (by kernel_rfl) (fun w1 c1 => (opf (v := .bool false) rfl rfl)) ?_
         exact leaf_q (sub_out 23 _ rfl (by kernel_rfl) ⟨(congrArg Value.bool (by rw [h94, decide_eq_false h95, decide_eq_true h98, decide_eq_false h99] <;> rfl)), trivial⟩)
       ·skip
        refine wv 37 (by kernel_rfl) (fun w1 c1 => (opf (v := .bool false) rfl rfl)) ?_
        refine wv 38 (by kernel_rfl) (fun w1 c1 => (opt (v := .bool false) rfl rfl)) ?_
        refine wv 39 (by kernel_rfl) (fun w1 c1 => (om (v := .bool false) rfl)) ?_
        refine wk 40 (by kernel_rfl) ?_
        refine wk 41 (by kernel_rfl) ?_
        refine wv 42 (by kernel_rfl) (fun w1 c1 => (opf (v := .bool false) rfl rfl)) ?_
        refine wv 43 (by kernel_rfl) (fun w1 c1 => (om (v := .bool false) rfl)) ?_
        refine wk 44 (by kernel_rfl) ?_
        refine wk 45 (by kernel_rfl) ?_
        refine wv 46 (by kernel_rfl) (fun w1 c1 => (opf (v := .bool false) rfl rfl)) ?_
        refine wv 47 (by kernel_rfl) (fun w1 c1 => (om (v := .bool false) rfl)) ?_
        refine wk 48 (by kernel_rfl) ?_
        refine wk 49 (by kernel_rfl) ?_
        refine wv 50 (by kernel_rfl) (fun w1 c1 => (opf (v := .bool false) rfl rfl)) ?_
        exact leaf_q (sub_out 23 _ rfl (by kernel_rfl) ⟨(congrArg Value.bool (by rw [h94, decide_eq_false h95, decide_eq_false h98] <;> rfl)), trivial⟩)
    refine xn ?_
    refine cm_condB (by kernel_rfl) rfl (fun h101 => ?_) (fun h101 => ?_)
    ·skip
     refine cq ?_
     refine cr ?_
     refine lv 2 (by kernel_rfl) (fun w1 c1 => (oa (v := .bool false) rfl)) ?_
     refine ln ?_
     refine xn ?_
     refine cm_ret ?_
     refine xm_inR ?_
     refine xm_thenR ?_
     refine xm_lret ?_
     refine xm_inR ?_
     refine xm_lret ?_
     exact xm_retT rfl (by kernel_rfl) (show _ = Value.bool false from rfl) fun w1 c1 => ⟨(), rfl, hsub [] (by kernel_rfl) rfl w1 c1⟩
    ·skip
     refine cm_skip ?_
     refine xm_inN ?_
     refine xn ?_
     refine cr ?_
     refine lv 23 (by kernel_rfl) (fun w1 c1 => (om (v := .int .i64 _) rfl)) ?_
     refine lm_ck (fun h102 => ?_)
     refine lv 24 (by kernel_rfl) (fun w1 c1 => (op_add rfl rfl h102)) ?_
     refine lv 3 (by kernel_rfl) (fun w1 c1 => (oa (v := .int .i64 _) rfl)) ?_
     refine ln ?_
     exact xm_lnext () (sc (by kernel_rfl) rfl (sc (by kernel_rfl) rfl sub_nil)) (hsub [] (by kernel_rfl) rfl)
   ·skip
    refine cm_exit ?_
    refine xm_thenE ?_
    refine xm_lexit ?_
    refine xm_here ?_
    exact xm_lnext () sub_nil (hsub [] (by kernel_rfl) rfl)
  intro s56 u57
  refine cq ?_
  refine cr ?_
  refine lv 2 (by kernel_rfl) (fun w1 c1 => (oa (v := .bool true) rfl)) ?_
  refine ln ?_
  refine xn ?_
  refine cm_ret ?_
  exact xm_retT rfl (by kernel_rfl) (show _ = Value.bool true from rfl) fun w1 c1 => ⟨(), rfl, hsub [] (by kernel_rfl) rfl w1 c1⟩
/-- recyclingref04.letter -/
def m_recyclingref04_letter (_N : Nat) (p0 : Int) : Option (Bool) :=
 some ((((decide (65 ≤ p0)) && (decide (p0 ≤ 90))) || ((decide (97 ≤ p0)) && (decide (p0 ≤ 122)))))
set_option maxRecDepth 20000 in
theorem m_recyclingref04_letter_ok (N : Nat) (w0 : World) (p0 : Int)   (r : Bool) (hr : m_recyclingref04_letter N p0 = some r) :
  Calls Tryz.prog 68 [.int .u8 p0].toArray w0 fun x w1 => ∃ u, x = .returned ((fun (r : Bool) (_u : Unit) => .bool r) r u) ∧ Hs w0 ((fun (_r : Bool) (_u : Unit) => []) r u) w1 := by
 refine calls_cm (n := 17) (R := fun r x w1 => ∃ u, x = .returned ((fun (r : Bool) (_u : Unit) => .bool r) r u) ∧ Hs w0 ((fun (_r : Bool) (_u : Unit) => []) r u) w1) Tryz.func68 rfl rfl (Nat.le_of_ble_eq_true rfl) ?_ r hr
 unfold m_recyclingref04_letter
 refine cq ?_
 refine cr ?_
 refine lv 2 (by kernel_rfl) (fun w1 c1 => (oa (v := .bool false) rfl)) ?_
 refine ln ?_
 refine xn ?_
 refine cq ?_
 refine cm_cutE [(2, .bool (((decide (65 ≤ p0)) && (decide (p0 ≤ 90))) || ((decide (97 ≤ p0)) && (decide (p0 ≤ 122)))))] ?_ ?_
 ·skip
  refine wv 3 (by kernel_rfl) (fun w1 c1 => (om (v := .int .u8 _) rfl)) ?_
  refine wq_dec 4 (by kernel_rfl) (fun w1 c1 => (op_geqK rfl rfl)) (fun h5 => ?_) (fun h5 => ?_)
  ·skip
   refine wv 5 (by kernel_rfl) (fun w1 c1 => (om (v := .bool true) rfl)) ?_
   refine wv 6 (by kernel_rfl) (fun w1 c1 => (om (v := .int .u8 _) rfl)) ?_
   refine wq_dec 7 (by kernel_rfl) (fun w1 c1 => (op_leqK rfl rfl)) (fun h6 => ?_) (fun h6 => ?_)
   ·skip
    refine wv 8 (by kernel_rfl) (fun w1 c1 => (opt (v := .bool true) rfl rfl)) ?_
    refine wv 9 (by kernel_rfl) (fun w1 c1 => (om (v := .bool true) rfl)) ?_
    refine wk 10 (by kernel_rfl) ?_
    refine wk 11 (by kernel_rfl) ?_
    refine wk 12 (by kernel_rfl) ?_
    refine wk 13 (by kernel_rfl) ?_
    refine wk 14 (by kernel_rfl) ?_
    refine wk 15 (by kernel_rfl) ?_
    refine wv 16 (by kernel_rfl) (fun w1 c1 => (opt (v := .bool true) rfl rfl)) ?_
    refine wv 2 (by kernel_rfl) (fun w1 c1 => (oa (v := .bool true) rfl)) ?_
    exact leaf_q (sub_out 15 _ rfl (by kernel_rfl) ⟨(congrArg Value.bool (by rw [decide_eq_true h5, decide_eq_true h6] <;> rfl)), trivial⟩)
   ·skip
    refine wv 8 (by kernel_rfl) (fun w1 c1 => (opt (v := .bool false) rfl rfl)) ?_
    refine wv 9 (by kernel_rfl) (fun w1 c1 => (om (v := .bool false) rfl)) ?_
    refine wv 10 (by kernel_rfl) (fun w1 c1 => (om (v := .int .u8 _) rfl)) ?_
    refine wq_dec 11 (by kernel_rfl) (fun w1 c1 => (op_geqK rfl rfl)) (fun h7 => ?_) (fun h7 => ?_)
    ·skip
     refine wv 12 (by kernel_rfl) (fun w1 c1 => (om (v := .bool true) rfl)) ?_
     refine wv 13 (by kernel_rfl) (fun w1 c1 => (om (v := .int .u8 _) rfl)) ?_
     refine wv 14 (by kernel_rfl) (fun w1 c1 => (op_leqK rfl rfl)) ?_
     refine wv 15 (by kernel_rfl) (fun w1 c1 => (opt (v := .bool _) rfl rfl)) ?_
     refine wv 16 (by kernel_rfl) (fun w1 c1 => (opf (v := .bool _) rfl rfl)) ?_
     refine wv 2 (by kernel_rfl) (fun w1 c1 => (oa (v := .bool _) rfl)) ?_
     exact leaf_q (sub_out 15 _ rfl (by kernel_rfl) ⟨(congrArg Value.bool (by rw [decide_eq_true h5, decide_eq_false h6, decide_eq_true h7] <;> rfl)), trivial⟩)
    ·skip
     refine wv 12 (by kernel_rfl) (fun w1 c1 => (om (v := .bool false) rfl)) ?_
     refine wk 13 (by kernel_rfl) ?_
     refine wk 14 (by kernel_rfl) ?_
     refine wv 15 (by kernel_rfl) (fun w1 c1 => (opf (v := .bool false) rfl rfl)) ?_
     refine wv 16 (by kernel_rfl) (fun w1 c1 => (opf (v := .bool false) rfl rfl)) ?_
     refine wv 2 (by kernel_rfl) (fun w1 c1 => (oa (v := .bool false) rfl)) ?_
     exact leaf_q (sub_out 15 _ rfl (by kernel_rfl) ⟨(congrArg Value.bool (by rw [decide_eq_true h5, decide_eq_false h6, decide_eq_false h7] <;> rfl)), trivial⟩)
  ·skip
   refine wv 5 (by kernel_rfl) (fun w1 c1 => (om (v := .bool false) rfl)) ?_
   refine wk 6 (by kernel_rfl) ?_
   refine wk 7 (by kernel_rfl) ?_
   refine wv 8 (by kernel_rfl) (fun w1 c1 => (opf (v := .bool false) rfl rfl)) ?_
   refine wv 9 (by kernel_rfl) (fun w1 c1 => (om (v := .bool false) rfl)) ?_
   refine wv 10 (by kernel_rfl) (fun w1 c1 => (om (v := .int .u8 _) rfl)) ?_
   refine wq_dec 11 (by kernel_rfl) (fun w1 c1 => (op_geqK rfl rfl)) (fun h8 => ?_) (fun h8 => ?_)
   ·skip
    refine wv 12 (by kernel_rfl) (fun w1 c1 => (om (v := .bool true) rfl)) ?_
    refine wv 13 (by kernel_rfl) (fun w1 c1 => (om (v := .int .u8 _) rfl)) ?_
    refine wv 14 (by kernel_rfl) (fun w1 c1 => (op_leqK rfl rfl)) ?_
    refine wv 15 (by kernel_rfl) (fun w1 c1 => (opt (v := .bool _) rfl rfl)) ?_
    refine wv 16 (by kernel_rfl) (fun w1 c1 => (opf (v := .bool _) rfl rfl)) ?_
    refine wv 2 (by kernel_rfl) (fun w1 c1 => (oa (v := .bool _) rfl)) ?_
    exact leaf_q (sub_out 15 _ rfl (by kernel_rfl) ⟨(congrArg Value.bool (by rw [decide_eq_false h5, decide_eq_true h8] <;> rfl)), trivial⟩)
   ·skip
    refine wv 12 (by kernel_rfl) (fun w1 c1 => (om (v := .bool false) rfl)) ?_
    refine wk 13 (by kernel_rfl) ?_
    refine wk 14 (by kernel_rfl) ?_
    refine wv 15 (by kernel_rfl) (fun w1 c1 => (opf (v := .bool false) rfl rfl)) ?_
    refine wv 16 (by kernel_rfl) (fun w1 c1 => (opf (v := .bool false) rfl rfl)) ?_
    refine wv 2 (by kernel_rfl) (fun w1 c1 => (oa (v := .bool false) rfl)) ?_
    exact leaf_q (sub_out 15 _ rfl (by kernel_rfl) ⟨(congrArg Value.bool (by rw [decide_eq_false h5, decide_eq_false h8] <;> rfl)), trivial⟩)
 refine xn ?_
 refine cm_ret ?_
 exact xm_retT rfl (by kernel_rfl) (show _ = Value.bool _ from rfl) fun w1 c1 => ⟨(), rfl, hsub [] (by kernel_rfl) rfl w1 c1⟩
/-- recyclingref04.Valid -/
def m_recyclingref04_Valid (N : Nat) (p0 : ByteArray) : Option (Bool) :=
 ck ((!((decide ((ByteArray.size p0 : Int) < 1)) || (decide (32 < (ByteArray.size p0 : Int))))) = true → (0 : Int) ≤ 0 ∧ 0 < (ByteArray.size p0 : Int)) (
  callIf ((!((decide ((ByteArray.size p0 : Int) < 1)) || (decide (32 < (ByteArray.size p0 : Int))))) = true) (m_recyclingref04_letter N (bget p0 (0 : Int))) fun r6 => (if (((decide ((ByteArray.size p0 : Int) < 1)) || (decide (32 < (ByteArray.size p0 : Int)))) || (!r6)) = true then
   some (false)
  else
   (andThen
    (loopM (fun (s88 : Int) =>
     (if s88 < (ByteArray.size p0 : Int) then
      ck ((0 : Int) ≤ s88 ∧ s88 < (ByteArray.size p0 : Int)) (
       Option.bind (m_recyclingref04_letter N (bget p0 s88)) fun r92 => (if (((((!r92) && ((decide ((bget p0 s88) < 48)) || (decide (57 < (bget p0 s88))))) && (decide ((bget p0 s88) ≠ 45))) && (decide ((bget p0 s88) ≠ 95))) && (decide ((bget p0 s88) ≠ 46))) = true then
        some (.done (.done (false)))
       else
        ck (I64 (s88 + (1 : Int))) (
         some (.next (s88 + (1 : Int))))))
     else
      some (.done (.next ())))) N (0 : Int))
   fun (_s56 : Unit) =>
    some (true))))
set_option maxHeartbeats 2000000 in
set_option maxRecDepth 20000 in
theorem m_recyclingref04_Valid_ok (N : Nat) (w0 : World) (p0 : ByteArray)   (r : Bool) (hr : m_recyclingref04_Valid N p0 = some r) :
  Calls Tryz.prog 55 [.string p0].toArray w0 fun x w1 => ∃ u, x = .returned ((fun (r : Bool) (_u : Unit) => .bool r) r u) ∧ Hs w0 ((fun (_r : Bool) (_u : Unit) => []) r u) w1 := by
 refine calls_cm (n := 51) (R := fun r x w1 => ∃ u, x = .returned ((fun (r : Bool) (_u : Unit) => .bool r) r u) ∧ Hs w0 ((fun (_r : Bool) (_u : Unit) => []) r u) w1) Tryz.func55 rfl rfl (Nat.le_of_ble_eq_true rfl) ?_ r hr
 unfold m_recyclingref04_Valid
 refine cq ?_
 refine cr ?_
 refine lv 2 (by kernel_rfl) (fun w1 c1 => (oa (v := .bool false) rfl)) ?_
 refine ln ?_
 refine xn ?_
 refine cq ?_
 refine cq ?_
 refine cm_ck (fun h5 => ?_)
 refine cm_callIf fun r6 h7 => ?_
 refine cm_cutE [(18, .bool (((decide ((ByteArray.size p0 : Int) < 1)) || (decide (32 < (ByteArray.size p0 : Int)))) || (!r6)))] ?_ ?_
 ·skip
  refine wv 5 (by kernel_rfl) (fun w1 c1 => (om (v := .string _) rfl)) ?_
  refine wv 6 (by kernel_rfl) (fun w1 c1 => (op_lenS rfl (by kernel_rfl))) ?_
  refine wq_dec 7 (by kernel_rfl) (fun w1 c1 => (op_lss rfl rfl)) (fun h8 => ?_) (fun h8 => ?_)
  ·skip
   refine wv 8 (by kernel_rfl) (fun w1 c1 => (om (v := .bool true) rfl)) ?_
   refine wk 9 (by kernel_rfl) ?_
   refine wk 10 (by kernel_rfl) ?_
   refine wk 11 (by kernel_rfl) ?_
   refine wv 12 (by kernel_rfl) (fun w1 c1 => (opt (v := .bool true) rfl rfl)) ?_
   refine wv 13 (by kernel_rfl) (fun w1 c1 => (om (v := .bool true) rfl)) ?_
   refine wk 14 (by kernel_rfl) ?_
   refine wk 15 (by kernel_rfl) ?_
   refine wk 16 (by kernel_rfl) ?_
   refine wk 17 (by kernel_rfl) ?_
   refine wv 18 (by kernel_rfl) (fun w1 c1 => (opt (v := .bool true) rfl rfl)) ?_
   exact leaf_q (sub_out 14 _ rfl (by kernel_rfl) ⟨(congrArg Value.bool (by rw [decide_eq_true h8] <;> rfl)), trivial⟩)
  ·skip
   refine wv 8 (by kernel_rfl) (fun w1 c1 => (om (v := .bool false) rfl)) ?_
   refine wv 9 (by kernel_rfl) (fun w1 c1 => (om (v := .string _) rfl)) ?_
   refine wv 10 (by kernel_rfl) (fun w1 c1 => (op_lenS rfl (by kernel_rfl))) ?_
   refine wq_dec 11 (by kernel_rfl) (fun w1 c1 => (op_gtr rfl rfl)) (fun h9 => ?_) (fun h9 => ?_)
   ·skip
    refine wv 12 (by kernel_rfl) (fun w1 c1 => (opf (v := .bool true) rfl rfl)) ?_
    refine wv 13 (by kernel_rfl) (fun w1 c1 => (om (v := .bool true) rfl)) ?_
    refine wk 14 (by kernel_rfl) ?_
    refine wk 15 (by kernel_rfl) ?_
    refine wk 16 (by kernel_rfl) ?_
    refine wk 17 (by kernel_rfl) ?_
    refine wv 18 (by kernel_rfl) (fun w1 c1 => (opt (v := .bool true) rfl rfl)) ?_
    exact leaf_q (sub_out 14 _ rfl (by kernel_rfl) ⟨(congrArg Value.bool (by rw [decide_eq_false h8, decide_eq_true h9] <;> rfl)), trivial⟩)
   ·skip
    refine wv 12 (by kernel_rfl) (fun w1 c1 => (opf (v := .bool false) rfl rfl)) ?_
    refine wv 13 (by kernel_rfl) (fun w1 c1 => (om (v := .bool false) rfl)) ?_
    refine wv 14 (by kernel_rfl) (fun w1 c1 => (om (v := .string _) rfl)) ?_
    refine wv 15 (by kernel_rfl) (fun w1 c1 => (op_indexS rfl rfl (by kernel_rfl) (h5 (by rw [decide_eq_false h8, decide_eq_false h9] <;> rfl)).1 (h5 (by rw [decide_eq_false h8, decide_eq_false h9] <;> rfl)).2)) ?_
    refine wq_call 16 (by kernel_rfl) (fun w1 c1 => op_call (by kernel_rfl)) (fun w1 c1 => (m_recyclingref04_letter_ok N w1 (bget p0 (0 : Int))  r6 (h7 (by rw [decide_eq_false h8, decide_eq_false h9] <;> rfl))).mono (fun _ _ ⟨_, hx, hu⟩ => ⟨hx, c1.call hu⟩)) ?_
    refine wv 17 (by kernel_rfl) (fun w1 c1 => (op_not rfl)) ?_
    refine wv 18 (by kernel_rfl) (fun w1 c1 => (opf (v := .bool _) rfl rfl)) ?_
    exact leaf_q (sub_out 14 _ rfl (by kernel_rfl) ⟨(congrArg Value.bool (by rw [decide_eq_false h8, decide_eq_false h9] <;> rfl)), trivial⟩)
 refine xn ?_
 refine cm_condB (by kernel_rfl) rfl (fun h10 => ?_) (fun h10 => ?_)
 ·skip
  refine cq ?_
  refine cr ?_
  refine lv 2 (by kernel_rfl) (fun w1 c1 => (oa (v := .bool false) rfl)) ?_
  refine ln ?_
  refine xn ?_
  refine cm_ret ?_
  refine xm_thenR ?_
  exact xm_retT rfl (by kernel_rfl) (show _ = Value.bool false from rfl) fun w1 c1 => ⟨(), rfl, hsub [] (by kernel_rfl) rfl w1 c1⟩
 ·skip
  refine cm_skip ?_
  refine xn ?_
  refine cm_join (σ := Unit) (ξ := Unit) (fun s56 u57 => []) (fun s56 u57 => []) ?_ ?_
  ·skip
   refine cq ?_
   refine cr ?_
   refine lv 3 (by kernel_rfl) (fun w1 c1 => (oa (v := .int .i64 _) rfl)) ?_
   refine ln ?_
   refine xn ?_
   refine cm_block ?_
   refine cm_loop (σ := Int) (ξ := Unit) (fun s88 u89 => [(0, .string p0), (3, .int .i64 s88)]) (fun s88 u89 => []) () ?_ ?_ ?_
   ·exact (sc (by kernel_rfl) rfl (sc (by kernel_rfl) rfl sub_nil))
   ·exact hsub [] (by kernel_rfl) rfl
   intro s88 u89
   refine cq ?_
   refine cq ?_
   refine cr ?_
   refine lv 19 (by kernel_rfl) (fun w1 c1 => (om (v := .int .i64 _) rfl)) ?_
   refine lv 20 (by kernel_rfl) (fun w1 c1 => (om (v := .string _) rfl)) ?_
   refine lv 21 (by kernel_rfl) (fun w1 c1 => (op_lenS rfl (by kernel_rfl))) ?_
   refine lv 22 (by kernel_rfl) (fun w1 c1 => (op_lss rfl rfl)) ?_
   refine ln ?_
   refine xn ?_
   refine cm_cond (by kernel_rfl) rfl (fun h90 => ?_) (fun h90 => ?_)
   ·skip
    refine cm_skip ?_
    refine xn ?_
    refine cq ?_
    refine cm_block ?_
    refine cq ?_
    refine cr ?_
    refine lv 25 (by kernel_rfl) (fun w1 c1 => (om (v := .string _) rfl)) ?_
    refine lv 26 (by kernel_rfl) (fun w1 c1 => (om (v := .int .i64 _) rfl)) ?_
    refine lm_ck (fun h91 => ?_)
    refine lv 27 (by kernel_rfl) (fun w1 c1 => (op_indexS rfl rfl (by kernel_rfl) h91.1 h91.2)) ?_
    refine lv 4 (by kernel_rfl) (fun w1 c1 => (oa (v := .int .u8 _) rfl)) ?_
    refine ln ?_
    refine xn ?_
    refine cq ?_
    refine cm_bind fun r92 h93 => ?_
    refine cm_cutE [(50, .bool (((((!r92) && ((decide ((bget p0 s88) < 48)) || (decide (57 < (bget p0 s88))))) && (decide ((bget p0 s88) ≠ 45))) && (decide ((bget p0 s88) ≠ 95))) && (decide ((bget p0 s88) ≠ 46))))] ?_ ?_
    ·skip
     refine wv 28 (by kernel_rfl) (fun w1 c1 => (om (v := .int .u8 _) rfl)) ?_
     refine wq_callb 29 (by kernel_rfl) (fun w1 c1 => op_call (by kernel_rfl)) (fun w1 c1 => (m_recyclingref04_letter_ok N w1 (bget p0 s88)  r92 h93).mono (fun _ _ ⟨_, hx, hu⟩ => ⟨hx, c1.call hu⟩)) (fun h94 => ?_) (fun h94 => ?_)
     ·skip
      refine wv 30 (by kernel_rfl) (fun w1 c1 => (op_nott rfl)) ?_
      refine wv 31 (by kernel_rfl) (fun w1 c1 => (om (v := .bool false) rfl)) ?_
      refine wk 32 (by kernel_rfl) ?_
      refine wk 33 (by kernel_rfl) ?_
      refine wk 34 (by kernel_rfl) ?_
      refine wk 35 (by kernel_rfl) ?_
      refine wk 36 (by kernel_rfl) ?_
      refine wk 37 (by kernel_rfl) ?_
      refine wv 38 (by kernel_rfl) (fun w1 c1 => (opf (v := .bool false) rfl rfl)) ?_
      refine wv 39 (by kernel_rfl) (fun w1 c1 => (om (v := .bool false) rfl)) ?_
      refine wk 40 (by kernel_rfl) ?_
      refine wk 41 (by kernel_rfl) ?_
      refine wv 42 (by kernel_rfl) (fun w1 c1 => (opf (v := .bool false) rfl rfl)) ?_
      refine wv 43 (by kernel_rfl) (fun w1 c1 => (om (v := .bool false) rfl)) ?_
      refine wk 44 (by kernel_rfl) ?_
      refine wk 45 (by kernel_rfl) ?_
      refine wv 46 (by kernel_rfl) (fun w1 c1 => (opf (v := .bool false) rfl rfl)) ?_
      refine wv 47 (by kernel_rfl) (fun w1 c1 => (om (v := .bool false) rfl)) ?_
      refine wk 48 (by kernel_rfl) ?_
      refine wk 49 (by kernel_rfl) ?_
      refine wv 50 (by kernel_rfl) (fun w1 c1 => (opf (v := .bool false) rfl rfl)) ?_
      exact leaf_q (sub_out 23 _ rfl (by kernel_rfl) ⟨(congrArg Value.bool (by rw [h94] <;> rfl)), trivial⟩)
     ·skip
      refine wv 30 (by kernel_rfl) (fun w1 c1 => (op_notf rfl)) ?_
      refine wv 31 (by kernel_rfl) (fun w1 c1 => (om (v := .bool true) rfl)) ?_
      refine wv 32 (by kernel_rfl) (fun w1 c1 => (om (v := .int .u8 _) rfl)) ?_
      refine wq_dec 33 (by kernel_rfl) (fun w1 c1 => (op_lssK rfl rfl)) (fun h95 => ?_) (fun h95 => ?_)
      ·skip
       refine wv 34 (by kernel_rfl) (fun w1 c1 => (om (v := .bool true) rfl)) ?_
       refine wk 35 (by kernel_rfl) ?_
       refine wk 36 (by kernel_rfl) ?_
       refine wv 37 (by kernel_rfl) (fun w1 c1 => (opt (v := .bool true) rfl rfl)) ?_
       refine wv 38 (by kernel_rfl) (fun w1 c1 => (opt (v := .bool true) rfl rfl)) ?_
       refine wv 39 (by kernel_rfl) (fun w1 c1 => (om (v := .bool true) rfl)) ?_
       refine wv 40 (by kernel_rfl) (fun w1 c1 => (om (v := .int .u8 _) rfl)) ?_
       refine wq_dec 41 (by kernel_rfl) (fun w1 c1 => (op_neqK rfl rfl)) (fun h96 => ?_) (fun h96 => ?_)
       ·skip
        refine wv 42 (by kernel_rfl) (fun w1 c1 => (opt (v := .bool true) rfl rfl)) ?_
        refine wv 43 (by kernel_rfl) (fun w1 c1 => (om (v := .bool true) rfl)) ?_
        refine wv 44 (by kernel_rfl) (fun w1 c1 => (om (v := .int .u8 _) rfl)) ?_
        refine wq_dec 45 (by kernel_rfl) (fun w1 c1 => (op_neqK rfl rfl)) (fun h97 => ?_) (fun h97 => ?_)
        ·skip
         refine wv 46 (by kernel_rfl) (fun w1 c1 => (opt (v := .bool true) rfl rfl)) ?_
         refine wv 47 (by kernel_rfl) (fun w1 c1 => (om (v := .bool true) rfl)) ?_
         refine wv 48 (by kernel_rfl) (fun w1 c1 => (om (v := .int .u8 _) rfl)) ?_
         refine wv 49 (by kernel_rfl) (fun w1 c1 => (op_neqK rfl rfl)) ?_
         refine wv 50 (by kernel_rfl) (fun w1 c1 => (opt (v := .bool _) rfl rfl)) ?_
         exact leaf_q (sub_out 23 _ rfl (by kernel_rfl) ⟨(congrArg Value.bool (by rw [h94, decide_eq_true h95, decide_eq_true h96, decide_eq_true h97] <;> rfl)), trivial⟩)
        ·skip
         refine wv 46 (by kernel_rfl) (fun w1 c1 => (opt (v := .bool false) rfl rfl)) ?_
         refine wv 47 (by kernel_rfl) (fun w1 c1 => (om (v := .bool false) rfl)) ?_
         refine wk 48 (by kernel_rfl) ?_
         refine wk 49 (by kernel_rfl) ?_
         refine wv 50 (by kernel_rfl) (fun w1 c1 => (opf (v := .bool false) rfl rfl)) ?_
         exact leaf_q (sub_out 23 _ rfl (by kernel_rfl) ⟨(congrArg Value.bool (by rw [h94, decide_eq_true h95, decide_eq_true h96, decide_eq_false h97] <;> rfl)), trivial⟩)
       ·skip
        refine wv 42 (by kernel_rfl) (fun w1 c1 => (opt (v := .bool false) rfl rfl)) ?_
        refine wv 43 (by kernel_rfl) (fun w1 c1 => (om (v := .bool false) rfl)) ?_
        refine wk 44 (by kernel_rfl) ?_
        refine wk 45 (by kernel_rfl) ?_
        refine wv 46 (by kernel_rfl) (fun w1 c1 => (opf (v := .bool false) rfl rfl)) ?_
        refine wv 47 (by kernel_rfl) (fun w1 c1 => (om (v := .bool false) rfl)) ?_
        refine wk 48 (by kernel_rfl) ?_
        refine wk 49 (by kernel_rfl) ?_
        refine wv 50 (by kernel_rfl) (fun w1 c1 => (opf (v := .bool false) rfl rfl)) ?_
        exact leaf_q (sub_out 23 _ rfl (by kernel_rfl) ⟨(congrArg Value.bool (by rw [h94, decide_eq_true h95, decide_eq_false h96] <;> rfl)), trivial⟩)
      ·skip
       refine wv 34 (by kernel_rfl) (fun w1 c1 => (om (v := .bool false) rfl)) ?_
       refine wv 35 (by kernel_rfl) (fun w1 c1 => (om (v := .int .u8 _) rfl)) ?_
       refine wq_dec 36 (by kernel_rfl) (fun w1 c1 => (op_gtrK rfl rfl)) (fun h98 => ?_) (fun h98 => ?_)
       ·skip
        refine wv 37 (by kernel_rfl) (fun w1 c1 => (opf (v := .bool true) rfl rfl)) ?_
        refine wv 38 (by kernel_rfl) (fun w1 c1 => (opt (v := .bool true) rfl rfl)) ?_
        refine wv 39 (by kernel_rfl) (fun w1 c1 => (om (v := .bool true) rfl)) ?_
        refine wv 40 (by kernel_rfl) (fun w1 c1 => (om (v := .int .u8 _) rfl)) ?_
        refine wq_dec 41 (by kernel_rfl) (fun w1 c1 => (op_neqK rfl rfl)) (fun h99 => ?_) (fun h99 => ?_)
        ·skip
         refine wv 42 (by kernel_rfl) (fun w1 c1 => (opt (v := .bool true) rfl rfl)) ?_
         refine wv 43 (by kernel_rfl) (fun w1 c1 => (om (v := .bool true) rfl)) ?_
         refine wv 44 (by kernel_rfl) (fun w1 c1 => (om (v := .int .u8 _) rfl)) ?_
         refine wq_dec 45 (by kernel_rfl) (fun w1 c1 => (op_neqK rfl rfl)) (fun h100 => ?_) (fun h100 => ?_)
         ·skip
          refine wv 46 (by kernel_rfl) (fun w1 c1 => (opt (v := .bool true) rfl rfl)) ?_
          refine wv 47 (by kernel_rfl) (fun w1 c1 => (om (v := .bool true) rfl)) ?_
          refine wv 48 (by kernel_rfl) (fun w1 c1 => (om (v := .int .u8 _) rfl)) ?_
          refine wv 49 (by kernel_rfl) (fun w1 c1 => (op_neqK rfl rfl)) ?_
          refine wv 50 (by kernel_rfl) (fun w1 c1 => (opt (v := .bool _) rfl rfl)) ?_
          exact leaf_q (sub_out 23 _ rfl (by kernel_rfl) ⟨(congrArg Value.bool (by rw [h94, decide_eq_false h95, decide_eq_true h98, decide_eq_true h99, decide_eq_true h100] <;> rfl)), trivial⟩)
         ·skip
          refine wv 46 (by kernel_rfl) (fun w1 c1 => (opt (v := .bool false) rfl rfl)) ?_
          refine wv 47 (by kernel_rfl) (fun w1 c1 => (om (v := .bool false) rfl)) ?_
          refine wk 48 (by kernel_rfl) ?_
          refine wk 49 (by kernel_rfl) ?_
          refine wv 50 (by kernel_rfl) (fun w1 c1 => (opf (v := .bool false) rfl rfl)) ?_
          exact leaf_q (sub_out 23 _ rfl (by kernel_rfl) ⟨(congrArg Value.bool (by rw [h94, decide_eq_false h95, decide_eq_true h98, decide_eq_true h99, decide_eq_false h100] <;> rfl)), trivial⟩)
        ·skip
         refine wv 42 (by kernel_rfl) (fun w1 c1 => (opt (v := .bool false) rfl rfl)) ?_
         refine wv 43 (by kernel_rfl) (fun w1 c1 => (om (v := .bool false) rfl)) ?_
         refine wk 44 (by kernel_rfl) ?_
         refine wk 45 (by kernel_rfl) ?_
         refine wv 46 (by kernel_rfl) (fun w1 c1 => (opf (v := .bool false) rfl rfl)) ?_
         refine wv 47 (by kernel_rfl) (fun w1 c1 => (om (v := .bool false) rfl)) ?_
         refine wk 48 (by kernel_rfl) ?_
         refine wk 49 (by kernel_rfl) ?_
         refine wv 50 (by kernel_rfl) (fun w1 c1 => (opf (v := .bool false) rfl rfl)) ?_
         exact leaf_q (sub_out 23 _ rfl (by kernel_rfl) ⟨(congrArg Value.bool (by rw [h94, decide_eq_false h95, decide_eq_true h98, decide_eq_false h99] <;> rfl)), trivial⟩)
       ·skip
        refine wv 37 (by kernel_rfl) (fun w1 c1 => (opf (v := .bool false) rfl rfl)) ?_
        refine wv 38 (by kernel_rfl) (fun w1 c1 => (opt (v := .bool false) rfl rfl)) ?_
        refine wv 39 (by kernel_rfl) (fun w1 c1 => (om (v := .bool false) rfl)) ?_
        refine wk 40 (by kernel_rfl) ?_
        refine wk 41 (by kernel_rfl) ?_
        refine wv 42 (by kernel_rfl) (fun w1 c1 => (opf (v := .bool false) rfl rfl)) ?_
        refine wv 43 (by kernel_rfl) (fun w1 c1 => (om (v := .bool false) rfl)) ?_
        refine wk 44 (by kernel_rfl) ?_
        refine wk 45 (by kernel_rfl) ?_
        refine wv 46 (by kernel_rfl) (fun w1 c1 => (opf (v := .bool false) rfl rfl)) ?_
        refine wv 47 (by kernel_rfl) (fun w1 c1 => (om (v := .bool false) rfl)) ?_
        refine wk 48 (by kernel_rfl) ?_
        refine wk 49 (by kernel_rfl) ?_
        refine wv 50 (by kernel_rfl) (fun w1 c1 => (opf (v := .bool false) rfl rfl)) ?_
        exact leaf_q (sub_out 23 _ rfl (by kernel_rfl) ⟨(congrArg Value.bool (by rw [h94, decide_eq_false h95, decide_eq_false h98] <;> rfl)), trivial⟩)
    refine xn ?_
    refine cm_condB (by kernel_rfl) rfl (fun h101 => ?_) (fun h101 => ?_)
    ·skip
     refine cq ?_
     refine cr ?_
     refine lv 2 (by kernel_rfl) (fun w1 c1 => (oa (v := .bool false) rfl)) ?_
     refine ln ?_
     refine xn ?_
     refine cm_ret ?_
     refine xm_inR ?_
     refine xm_thenR ?_
     refine xm_lret ?_
     refine xm_inR ?_
     refine xm_lret ?_
     exact xm_retT rfl (by kernel_rfl) (show _ = Value.bool false from rfl) fun w1 c1 => ⟨(), rfl, hsub [] (by kernel_rfl) rfl w1 c1⟩
    ·skip
     refine cm_skip ?_
     refine xm_inN ?_
     refine xn ?_
     refine cr ?_
     refine lv 23 (by kernel_rfl) (fun w1 c1 => (om (v := .int .i64 _) rfl)) ?_
     refine lm_ck (fun h102 => ?_)
     refine lv 24 (by kernel_rfl) (fun w1 c1 => (op_add rfl rfl h102)) ?_
     refine lv 3 (by kernel_rfl) (fun w1 c1 => (oa (v := .int .i64 _) rfl)) ?_
     refine ln ?_
     exact xm_lnext () (sc (by kernel_rfl) rfl (sc (by kernel_rfl) rfl sub_nil)) (hsub [] (by kernel_rfl) rfl)
   ·skip
    refine cm_exit ?_
    refine xm_thenE ?_
    refine xm_lexit ?_
    refine xm_here ?_
    exact xm_lnext () sub_nil (hsub [] (by kernel_rfl) rfl)
  intro s56 u57
  refine cq ?_
  refine cr ?_
  refine lv 2 (by kernel_rfl) (fun w1 c1 => (oa (v := .bool true) rfl)) ?_
  refine ln ?_
  refine xn ?_
  refine cm_ret ?_
  exact xm_retT rfl (by kernel_rfl) (show _ = Value.bool true from rfl) fun w1 c1 => ⟨(), rfl, hsub [] (by kernel_rfl) rfl w1 c1⟩
/-- container.check -/
def m_container_check (N : Nat) (p0 : ApiContainer) (p1 : Int) (p2 : Int) : Option (Int) :=
 Option.bind (m_ident_Valid N p0.ID) fun r6 => (if (!r6) = true then
  some ((5 : Int))
 else
  (if ((decide (p0.Kind < 0)) || (decide (p1 ≤ p0.Kind))) = true then
   some ((21 : Int))
  else
   (if ((((decide (p0.Litres < 1)) || (decide (40000 < p0.Litres))) || (decide (p0.Grams < 1))) || (decide (1073741824 < p0.Grams))) = true then
    some ((1 : Int))
   else
    (if ((decide (p0.Node < 0)) || (decide (p2 ≤ p0.Node))) = true then
     some ((7 : Int))
    else
     some ((0 : Int))))))
set_option maxHeartbeats 2000000 in
set_option maxRecDepth 20000 in
theorem m_container_check_ok (N : Nat) (w0 : World) (p0 : ApiContainer) (p1 : Int) (p2 : Int)   (r : Int) (hr : m_container_check N p0 p1 p2 = some r) :
  Calls Tryz.prog 45 [.agg #[.string p0.ID, .int .i64 p0.Kind, .int .i64 p0.Litres, .int .i64 p0.Grams, .int .i64 p0.Node], .int .i64 p1, .int .i64 p2].toArray w0 fun x w1 => ∃ u, x = .returned ((fun (r : Int) (_u : Unit) => .int .i64 r) r u) ∧ Hs w0 ((fun (_r : Int) (_u : Unit) => []) r u) w1 := by
 refine calls_cm (n := 51) (R := fun r x w1 => ∃ u, x = .returned ((fun (r : Int) (_u : Unit) => .int .i64 r) r u) ∧ Hs w0 ((fun (_r : Int) (_u : Unit) => []) r u) w1) Tryz.func45 rfl rfl (Nat.le_of_ble_eq_true rfl) ?_ r hr
 unfold m_container_check
 refine cq ?_
 refine cr ?_
 refine lm_box 3 [.string _, .int .i64 _, .int .i64 _, .int .i64 _, .int .i64 _] (by kernel_rfl) rfl ?_
 intro b5
 refine lv 6 (by kernel_rfl) (fun w1 c1 => (oa (v := .int .i64 _) rfl)) ?_
 refine ln ?_
 refine xn ?_
 refine cq ?_
 refine cm_block ?_
 refine cq ?_
 refine cr ?_
 refine lv 8 (by kernel_rfl) (fun w1 c1 => (oF (m := 0) (k := 0) rfl (by kernel_rfl) rfl)) ?_
 refine lv 9 (by kernel_rfl) (fun w1 c1 => (ol rfl (by kernel_rfl) (c1.cell 0 (u := .string _) rfl rfl))) ?_
 refine lm_call 10 (V := (fun (r : Bool) (_u : Unit) => .bool r)) (HR := (fun (_r : Bool) (_u : Unit) => [])) (by kernel_rfl) (fun w1 => op_call (by kernel_rfl)) (fun r1 hr1 w1 c1 => m_ident_Valid_ok N w1 p0.ID  r1 hr1) ?_
 intro r6 u7
 refine lv 11 (by kernel_rfl) (fun w1 c1 => (op_not rfl)) ?_
 refine lv 7 (by kernel_rfl) (fun w1 c1 => (oa (v := .bool _) rfl)) ?_
 refine ln ?_
 refine xn ?_
 refine cm_condB (by kernel_rfl) rfl (fun h8 => ?_) (fun h8 => ?_)
 ·skip
  refine cq ?_
  refine cr ?_
  refine lv 6 (by kernel_rfl) (fun w1 c1 => (oa (v := .int .i64 _) rfl)) ?_
  refine ln ?_
  refine xn ?_
  refine cm_ret ?_
  refine xm_inR ?_
  refine xm_thenR ?_
  exact xm_retT rfl (by kernel_rfl) (show _ = Value.int .i64 _ from rfl) fun w1 c1 => ⟨(), rfl, hsub [] (by kernel_rfl) rfl w1 c1⟩
 ·skip
  refine cq ?_
  refine cm_cutE [(12, .bool ((decide (p0.Kind < 0)) || (decide (p1 ≤ p0.Kind))))] ?_ ?_
  ·skip
   refine wv 13 (by kernel_rfl) (fun w1 c1 => (oF (m := 1) (k := 1) rfl (by kernel_rfl) rfl)) ?_
   refine wv 14 (by kernel_rfl) (fun w1 c1 => (ol rfl (by kernel_rfl) (c1.cell 0 (u := .int .i64 _) rfl rfl))) ?_
   refine wq_dec 15 (by kernel_rfl) (fun w1 c1 => (op_lss rfl rfl)) (fun h9 => ?_) (fun h9 => ?_)
   ·skip
    refine wv 16 (by kernel_rfl) (fun w1 c1 => (om (v := .bool true) rfl)) ?_
    refine wk 17 (by kernel_rfl) ?_
    refine wk 18 (by kernel_rfl) ?_
    refine wk 19 (by kernel_rfl) ?_
    refine wk 20 (by kernel_rfl) ?_
    refine wv 21 (by kernel_rfl) (fun w1 c1 => (opt (v := .bool true) rfl rfl)) ?_
    refine wv 12 (by kernel_rfl) (fun w1 c1 => (oa (v := .bool true) rfl)) ?_
    exact leaf_q (sub_out 10 _ rfl (by kernel_rfl) ⟨(congrArg Value.bool (by rw [decide_eq_true h9] <;> rfl)), trivial⟩)
   ·skip
    refine wv 16 (by kernel_rfl) (fun w1 c1 => (om (v := .bool false) rfl)) ?_
    refine wv 17 (by kernel_rfl) (fun w1 c1 => (oF (m := 1) (k := 1) rfl (by kernel_rfl) rfl)) ?_
    refine wv 18 (by kernel_rfl) (fun w1 c1 => (ol rfl (by kernel_rfl) (c1.cell 0 (u := .int .i64 _) rfl rfl))) ?_
    refine wv 19 (by kernel_rfl) (fun w1 c1 => (om (v := .int .i64 _) rfl)) ?_
    refine wv 20 (by kernel_rfl) (fun w1 c1 => (op_geq rfl rfl)) ?_
    refine wv 21 (by kernel_rfl) (fun w1 c1 => (opf (v := .bool _) rfl rfl)) ?_
    refine wv 12 (by kernel_rfl) (fun w1 c1 => (oa (v := .bool _) rfl)) ?_
    exact leaf_q (sub_out 10 _ rfl (by kernel_rfl) ⟨(congrArg Value.bool (by rw [decide_eq_false h9] <;> rfl)), trivial⟩)
  refine xn ?_
  refine cm_condB (by kernel_rfl) rfl (fun h10 => ?_) (fun h10 => ?_)
  ·skip
   refine cq ?_
   refine cr ?_
   refine lv 6 (by kernel_rfl) (fun w1 c1 => (oa (v := .int .i64 _) rfl)) ?_
   refine ln ?_
   refine xn ?_
   refine cm_ret ?_
   refine xm_inR ?_
   refine xm_thenR ?_
   exact xm_retT rfl (by kernel_rfl) (show _ = Value.int .i64 _ from rfl) fun w1 c1 => ⟨(), rfl, hsub [] (by kernel_rfl) rfl w1 c1⟩
  ·skip
   refine cq ?_
   refine cm_cutE [(22, .bool ((((decide (p0.Litres < 1)) || (decide (40000 < p0.Litres))) || (decide (p0.Grams < 1))) || (decide (1073741824 < p0.Grams))))] ?_ ?_
   ·skip
    refine wv 23 (by kernel_rfl) (fun w1 c1 => (oF (m := 2) (k := 2) rfl (by kernel_rfl) rfl)) ?_
    refine wv 24 (by kernel_rfl) (fun w1 c1 => (ol rfl (by kernel_rfl) (c1.cell 0 (u := .int .i64 _) rfl rfl))) ?_
    refine wq_dec 25 (by kernel_rfl) (fun w1 c1 => (op_lss rfl rfl)) (fun h11 => ?_) (fun h11 => ?_)
    ·skip
     refine wv 26 (by kernel_rfl) (fun w1 c1 => (om (v := .bool true) rfl)) ?_
     refine wk 27 (by kernel_rfl) ?_
     refine wk 28 (by kernel_rfl) ?_
     refine wk 29 (by kernel_rfl) ?_
     refine wv 30 (by kernel_rfl) (fun w1 c1 => (opt (v := .bool true) rfl rfl)) ?_
     refine wv 31 (by kernel_rfl) (fun w1 c1 => (om (v := .bool true) rfl)) ?_
     refine wk 32 (by kernel_rfl) ?_
     refine wk 33 (by kernel_rfl) ?_
     refine wk 34 (by kernel_rfl) ?_
     refine wv 35 (by kernel_rfl) (fun w1 c1 => (opt (v := .bool true) rfl rfl)) ?_
     refine wv 36 (by kernel_rfl) (fun w1 c1 => (om (v := .bool true) rfl)) ?_
     refine wk 37 (by kernel_rfl) ?_
     refine wk 38 (by kernel_rfl) ?_
     refine wk 39 (by kernel_rfl) ?_
     refine wv 40 (by kernel_rfl) (fun w1 c1 => (opt (v := .bool true) rfl rfl)) ?_
     refine wv 22 (by kernel_rfl) (fun w1 c1 => (oa (v := .bool true) rfl)) ?_
     exact leaf_q (sub_out 19 _ rfl (by kernel_rfl) ⟨(congrArg Value.bool (by rw [decide_eq_true h11] <;> rfl)), trivial⟩)
    ·skip
     refine wv 26 (by kernel_rfl) (fun w1 c1 => (om (v := .bool false) rfl)) ?_
     refine wv 27 (by kernel_rfl) (fun w1 c1 => (oF (m := 2) (k := 2) rfl (by kernel_rfl) rfl)) ?_
     refine wv 28 (by kernel_rfl) (fun w1 c1 => (ol rfl (by kernel_rfl) (c1.cell 0 (u := .int .i64 _) rfl rfl))) ?_
     refine wq_dec 29 (by kernel_rfl) (fun w1 c1 => (op_gtr rfl rfl)) (fun h12 => ?_) (fun h12 => ?_)
     ·skip
      refine wv 30 (by kernel_rfl) (fun w1 c1 => (opf (v := .bool true) rfl rfl)) ?_
      refine wv 31 (by kernel_rfl) (fun w1 c1 => (om (v := .bool true) rfl)) ?_
      refine wk 32 (by kernel_rfl) ?_
      refine wk 33 (by kernel_rfl) ?_
      refine wk 34 (by kernel_rfl) ?_
      refine wv 35 (by kernel_rfl) (fun w1 c1 => (opt (v := .bool true) rfl rfl)) ?_
      refine wv 36 (by kernel_rfl) (fun w1 c1 => (om (v := .bool true) rfl)) ?_
      refine wk 37 (by kernel_rfl) ?_
      refine wk 38 (by kernel_rfl) ?_
      refine wk 39 (by kernel_rfl) ?_
      refine wv 40 (by kernel_rfl) (fun w1 c1 => (opt (v := .bool true) rfl rfl)) ?_
      refine wv 22 (by kernel_rfl) (fun w1 c1 => (oa (v := .bool true) rfl)) ?_
      exact leaf_q (sub_out 19 _ rfl (by kernel_rfl) ⟨(congrArg Value.bool (by rw [decide_eq_false h11, decide_eq_true h12] <;> rfl)), trivial⟩)
     ·skip
      refine wv 30 (by kernel_rfl) (fun w1 c1 => (opf (v := .bool false) rfl rfl)) ?_
      refine wv 31 (by kernel_rfl) (fun w1 c1 => (om (v := .bool false) rfl)) ?_
      refine wv 32 (by kernel_rfl) (fun w1 c1 => (oF (m := 3) (k := 3) rfl (by kernel_rfl) rfl)) ?_
      refine wv 33 (by kernel_rfl) (fun w1 c1 => (ol rfl (by kernel_rfl) (c1.cell 0 (u := .int .i64 _) rfl rfl))) ?_
      refine wq_dec 34 (by kernel_rfl) (fun w1 c1 => (op_lss rfl rfl)) (fun h13 => ?_) (fun h13 => ?_)
      ·skip
       refine wv 35 (by kernel_rfl) (fun w1 c1 => (opf (v := .bool true) rfl rfl)) ?_
       refine wv 36 (by kernel_rfl) (fun w1 c1 => (om (v := .bool true) rfl)) ?_
       refine wk 37 (by kernel_rfl) ?_
       refine wk 38 (by kernel_rfl) ?_
       refine wk 39 (by kernel_rfl) ?_
       refine wv 40 (by kernel_rfl) (fun w1 c1 => (opt (v := .bool true) rfl rfl)) ?_
       refine wv 22 (by kernel_rfl) (fun w1 c1 => (oa (v := .bool true) rfl)) ?_
       exact leaf_q (sub_out 19 _ rfl (by kernel_rfl) ⟨(congrArg Value.bool (by rw [decide_eq_false h11, decide_eq_false h12, decide_eq_true h13] <;> rfl)), trivial⟩)
      ·skip
       refine wv 35 (by kernel_rfl) (fun w1 c1 => (opf (v := .bool false) rfl rfl)) ?_
       refine wv 36 (by kernel_rfl) (fun w1 c1 => (om (v := .bool false) rfl)) ?_
       refine wv 37 (by kernel_rfl) (fun w1 c1 => (oF (m := 3) (k := 3) rfl (by kernel_rfl) rfl)) ?_
       refine wv 38 (by kernel_rfl) (fun w1 c1 => (ol rfl (by kernel_rfl) (c1.cell 0 (u := .int .i64 _) rfl rfl))) ?_
       refine wv 39 (by kernel_rfl) (fun w1 c1 => (op_gtr rfl rfl)) ?_
       refine wv 40 (by kernel_rfl) (fun w1 c1 => (opf (v := .bool _) rfl rfl)) ?_
       refine wv 22 (by kernel_rfl) (fun w1 c1 => (oa (v := .bool _) rfl)) ?_
       exact leaf_q (sub_out 19 _ rfl (by kernel_rfl) ⟨(congrArg Value.bool (by rw [decide_eq_false h11, decide_eq_false h12, decide_eq_false h13] <;> rfl)), trivial⟩)
   refine xn ?_
   refine cm_condB (by kernel_rfl) rfl (fun h14 => ?_) (fun h14 => ?_)
   ·skip
    refine cq ?_
    refine cr ?_
    refine lv 6 (by kernel_rfl) (fun w1 c1 => (oa (v := .int .i64 _) rfl)) ?_
    refine ln ?_
    refine xn ?_
    refine cm_ret ?_
    refine xm_inR ?_
    refine xm_thenR ?_
    exact xm_retT rfl (by kernel_rfl) (show _ = Value.int .i64 _ from rfl) fun w1 c1 => ⟨(), rfl, hsub [] (by kernel_rfl) rfl w1 c1⟩
   ·skip
    refine cq ?_
    refine cm_cutE [(41, .bool ((decide (p0.Node < 0)) || (decide (p2 ≤ p0.Node))))] ?_ ?_
    ·skip
     refine wv 42 (by kernel_rfl) (fun w1 c1 => (oF (m := 4) (k := 4) rfl (by kernel_rfl) rfl)) ?_
     refine wv 43 (by kernel_rfl) (fun w1 c1 => (ol rfl (by kernel_rfl) (c1.cell 0 (u := .int .i64 _) rfl rfl))) ?_
     refine wq_dec 44 (by kernel_rfl) (fun w1 c1 => (op_lss rfl rfl)) (fun h15 => ?_) (fun h15 => ?_)
     ·skip
      refine wv 45 (by kernel_rfl) (fun w1 c1 => (om (v := .bool true) rfl)) ?_
      refine wk 46 (by kernel_rfl) ?_
      refine wk 47 (by kernel_rfl) ?_
      refine wk 48 (by kernel_rfl) ?_
      refine wk 49 (by kernel_rfl) ?_
      refine wv 50 (by kernel_rfl) (fun w1 c1 => (opt (v := .bool true) rfl rfl)) ?_
      refine wv 41 (by kernel_rfl) (fun w1 c1 => (oa (v := .bool true) rfl)) ?_
      exact leaf_q (sub_out 10 _ rfl (by kernel_rfl) ⟨(congrArg Value.bool (by rw [decide_eq_true h15] <;> rfl)), trivial⟩)
     ·skip
      refine wv 45 (by kernel_rfl) (fun w1 c1 => (om (v := .bool false) rfl)) ?_
      refine wv 46 (by kernel_rfl) (fun w1 c1 => (oF (m := 4) (k := 4) rfl (by kernel_rfl) rfl)) ?_
      refine wv 47 (by kernel_rfl) (fun w1 c1 => (ol rfl (by kernel_rfl) (c1.cell 0 (u := .int .i64 _) rfl rfl))) ?_
      refine wv 48 (by kernel_rfl) (fun w1 c1 => (om (v := .int .i64 _) rfl)) ?_
      refine wv 49 (by kernel_rfl) (fun w1 c1 => (op_geq rfl rfl)) ?_
      refine wv 50 (by kernel_rfl) (fun w1 c1 => (opf (v := .bool _) rfl rfl)) ?_
      refine wv 41 (by kernel_rfl) (fun w1 c1 => (oa (v := .bool _) rfl)) ?_
      exact leaf_q (sub_out 10 _ rfl (by kernel_rfl) ⟨(congrArg Value.bool (by rw [decide_eq_false h15] <;> rfl)), trivial⟩)
    refine xn ?_
    refine cm_condB (by kernel_rfl) rfl (fun h16 => ?_) (fun h16 => ?_)
    ·skip
     refine cq ?_
     refine cr ?_
     refine lv 6 (by kernel_rfl) (fun w1 c1 => (oa (v := .int .i64 _) rfl)) ?_
     refine ln ?_
     refine xn ?_
     refine cm_ret ?_
     refine xm_inR ?_
     refine xm_thenR ?_
     exact xm_retT rfl (by kernel_rfl) (show _ = Value.int .i64 _ from rfl) fun w1 c1 => ⟨(), rfl, hsub [] (by kernel_rfl) rfl w1 c1⟩
    ·skip
     refine cm_skip ?_
     refine xm_inN ?_
     refine xn ?_
     refine cq ?_
     refine cr ?_
     refine lv 6 (by kernel_rfl) (fun w1 c1 => (oa (v := .int .i64 _) rfl)) ?_
     refine ln ?_
     refine xn ?_
     refine cm_ret ?_
     exact xm_retT rfl (by kernel_rfl) (show _ = Value.int .i64 _ from rfl) fun w1 c1 => ⟨(), rfl, hsub [] (by kernel_rfl) rfl w1 c1⟩
/-- container.Check -/
def m_container_Check (N : Nat) (p0 : (List ApiContainer)) (p1 : Int) (p2 : Int) : Option (Int) :=
 (if 256 < (List.length p0 : Int) then
  some ((8 : Int))
 else
  (andThen
   (loopM (fun (s53 : Int) =>
    (if s53 < (List.length p0 : Int) then
     ck ((0 : Int) ≤ s53 ∧ s53 < (List.length p0 : Int)) (
      Option.bind (m_container_check N (ix p0 s53) p1 p2) fun r58 => (if r58 ≠ 0 then
       some (.done (.done (r58)))
      else
       ck (I64 (s53 + (1 : Int))) (
        some (.next (s53 + (1 : Int))))))
    else
     some (.done (.next ())))) N (0 : Int))
  fun (_s33 : Unit) =>
   (andThen
    (loopM (fun (s110 : (List (ByteArray × Bool)) × Int) =>
     (if s110.2 < (List.length p0 : Int) then
      ck ((0 : Int) ≤ s110.2 ∧ s110.2 < (List.length p0 : Int)) (
       ck (ByteArray.size ((ix p0 s110.2).ID) ≤ 9223372036854775807) (
        (if (Option.getD (mget s110.1 ((ix p0 s110.2).ID)) false) = true then
         some (.done (.done ((6 : Int))))
        else
         ck (ByteArray.size ((ix p0 s110.2).ID) ≤ 9223372036854775807) (
          ck (I64 (s110.2 + (1 : Int))) (
           some (.next ((mput s110.1 ((ix p0 s110.2).ID) true), (s110.2 + (1 : Int)))))))))
     else
      some (.done (.next ())))) N (([] : (List (ByteArray × Bool))), (0 : Int)))
   fun (_s90 : Unit) =>
    some ((0 : Int)))))
set_option maxHeartbeats 2000000 in
set_option maxRecDepth 20000 in
theorem m_container_Check_ok (N : Nat) (w0 : World) (p0 : (List ApiContainer)) (p1 : Int) (p2 : Int) (A_p0 : Option Addr) (n_p0 c_p0 : Nat) (hr_p0 : RdE w0 5 encApiContainer A_p0 p0) (hz_p0 : SW A_p0 n_p0 c_p0 (List.length p0)) (r : Int) (hr : m_container_Check N p0 p1 p2 = some r) :
  Calls Tryz.prog 27 [.slice A_p0 n_p0 c_p0, .int .i64 p1, .int .i64 p2].toArray w0 fun x w1 => ∃ u, x = .returned ((fun (r : Int) (_u : Unit) => .int .i64 r) r u) ∧ Hs w0 ((fun (_r : Int) (_u : Unit) => []) r u) w1 := by
 refine calls_cm (n := 45) (R := fun r x w1 => ∃ u, x = .returned ((fun (r : Int) (_u : Unit) => .int .i64 r) r u) ∧ Hs w0 ((fun (_r : Int) (_u : Unit) => []) r u) w1) Tryz.func27 rfl rfl (Nat.le_of_ble_eq_true rfl) ?_ r hr
 unfold m_container_Check
 refine cq ?_
 refine cr ?_
 refine lv 6 (by kernel_rfl) (fun w1 c1 => (oa (v := .int .i64 _) rfl)) ?_
 refine ln ?_
 refine xn ?_
 refine cq ?_
 refine cq ?_
 refine cr ?_
 refine lv 13 (by kernel_rfl) (fun w1 c1 => (om (v := .slice _ _ _) rfl)) ?_
 refine lv 14 (by kernel_rfl) (fun w1 c1 => (op_lenN rfl (by kernel_rfl) hz_p0.2.2)) ?_
 refine lv 15 (by kernel_rfl) (fun w1 c1 => (op_gtr rfl rfl)) ?_
 refine ln ?_
 refine xn ?_
 refine cm_cond (by kernel_rfl) rfl (fun h5 => ?_) (fun h5 => ?_)
 ·skip
  refine cq ?_
  refine cr ?_
  refine lv 6 (by kernel_rfl) (fun w1 c1 => (oa (v := .int .i64 _) rfl)) ?_
  refine ln ?_
  refine xn ?_
  refine cm_ret ?_
  refine xm_thenR ?_
  exact xm_retT rfl (by kernel_rfl) (show _ = Value.int .i64 _ from rfl) fun w1 c1 => ⟨(), rfl, hsub [] (by kernel_rfl) rfl w1 c1⟩
 ·skip
  refine cm_skip ?_
  refine xn ?_
  refine cm_join (σ := Unit) (ξ := Unit) (fun s33 u34 => [(0, .slice A_p0 n_p0 c_p0)]) (fun s33 u34 => []) ?_ ?_
  ·skip
   refine cq ?_
   refine cr ?_
   refine lv 16 (by kernel_rfl) (fun w1 c1 => (om (v := .slice _ _ _) rfl)) ?_
   refine lv 17 (by kernel_rfl) (fun w1 c1 => (op_lenN rfl (by kernel_rfl) hz_p0.2.2)) ?_
   refine lv 18 (by kernel_rfl) (fun w1 c1 => (om (v := .int .i64 _) rfl)) ?_
   refine ln ?_
   refine xn ?_
   refine cm_block ?_
   refine cm_loop (σ := Int) (ξ := Unit) (fun s53 u54 => [(0, .slice A_p0 n_p0 c_p0), (1, .int .i64 p1), (2, .int .i64 p2), (16, .slice A_p0 n_p0 c_p0), (17, .int .i64 (List.length p0 : Int)), (18, .int .i64 s53)]) (fun s53 u54 => []) () ?_ ?_ ?_
   ·exact (sc (by kernel_rfl) rfl (sc (by kernel_rfl) rfl (sc (by kernel_rfl) rfl (sc (by kernel_rfl) rfl (sc (by kernel_rfl) rfl (sc (by kernel_rfl) rfl sub_nil))))))
   ·exact hsub [] (by kernel_rfl) rfl
   intro s53 u54
   refine cq ?_
   refine cr ?_
   refine lv 19 (by kernel_rfl) (fun w1 c1 => (op_lss rfl rfl)) ?_
   refine ln ?_
   refine xn ?_
   refine cq ?_
   refine cm_cond (by kernel_rfl) rfl (fun h55 => ?_) (fun h55 => ?_)
   ·skip
    refine cm_skip ?_
    refine xn ?_
    refine cq ?_
    refine cm_block ?_
    refine cq ?_
    refine cr ?_
    refine lm_ck (fun h56 => ?_)
    refine lv 20 (by kernel_rfl) (fun w1 c1 => (op_indexA 5 rfl rfl (by kernel_rfl) ((hr_p0.old c1).addr h56.1 h56.2) hz_p0.2.2 h56.1 h56.2)) ?_
    refine lv 21 (by kernel_rfl) (fun w1 c1 => (op_loadR [.string ((ix p0 s53).ID), .int .i64 ((ix p0 s53).Kind), .int .i64 ((ix p0 s53).Litres), .int .i64 ((ix p0 s53).Grams), .int .i64 ((ix p0 s53).Node)] rfl (by kernel_rfl) ((hr_p0.old c1).row h56.1 h56.2))) ?_
    refine lm_alloc 8 [.string (⟨#[]⟩ : ByteArray), .int .i64 0, .int .i64 0, .int .i64 0, .int .i64 0] (v := .agg #[.string (⟨#[]⟩ : ByteArray), .int .i64 0, .int .i64 0, .int .i64 0, .int .i64 0]) (by kernel_rfl) (by kernel_rfl) rfl ?_
    intro b57
    refine lm_storeA 0 [.string _, .int .i64 _, .int .i64 _, .int .i64 _, .int .i64 _] [_, _, _, _, _] (H' := [blkE _ _ [_, _, _, _, _]]) (by kernel_rfl) rfl rfl (by kernel_rfl) rfl rfl (by kernel_rfl) rfl rfl ?_
    refine ln ?_
    refine xn ?_
    refine cq ?_
    refine cr ?_
    refine lv 22 (by kernel_rfl) (fun w1 c1 => (op_loadR [.string _, .int .i64 _, .int .i64 _, .int .i64 _, .int .i64 _] rfl (by kernel_rfl) (c1.cells 0 rfl rfl))) ?_
    refine lv 23 (by kernel_rfl) (fun w1 c1 => (om (v := .int .i64 _) rfl)) ?_
    refine lv 24 (by kernel_rfl) (fun w1 c1 => (om (v := .int .i64 _) rfl)) ?_
    refine lm_call 25 (V := (fun (r : Int) (_u : Unit) => .int .i64 r)) (HR := (fun (_r : Int) (_u : Unit) => [])) (by kernel_rfl) (fun w1 => op_call (by kernel_rfl)) (fun r1 hr1 w1 c1 => m_container_check_ok N w1 (ix p0 s53) p1 p2  r1 hr1) ?_
    intro r58 u59
    refine lv 9 (by kernel_rfl) (fun w1 c1 => (oa (v := .int .i64 _) rfl)) ?_
    refine ln ?_
    refine xn ?_
    refine cq ?_
    refine cr ?_
    refine lv 26 (by kernel_rfl) (fun w1 c1 => (om (v := .int .i64 _) rfl)) ?_
    refine lv 27 (by kernel_rfl) (fun w1 c1 => (op_neq rfl rfl)) ?_
    refine ln ?_
    refine xn ?_
    refine cm_cond (by kernel_rfl) rfl (fun h60 => ?_) (fun h60 => ?_)
    ·skip
     refine cq ?_
     refine cr ?_
     refine lv 28 (by kernel_rfl) (fun w1 c1 => (om (v := .int .i64 _) rfl)) ?_
     refine lv 6 (by kernel_rfl) (fun w1 c1 => (oa (v := .int .i64 _) rfl)) ?_
     refine ln ?_
     refine xn ?_
     refine cm_ret ?_
     refine xm_inR ?_
     refine xm_thenR ?_
     refine xm_lret ?_
     refine xm_inR ?_
     refine xm_lret ?_
     exact xm_retT rfl (by kernel_rfl) (show _ = Value.int .i64 _ from rfl) fun w1 c1 => ⟨(), rfl, hsub [] (by kernel_rfl) rfl w1 c1⟩
    ·skip
     refine cm_skip ?_
     refine xm_inN ?_
     refine xn ?_
     refine cr ?_
     refine lm_ck (fun h61 => ?_)
     refine lv 29 (by kernel_rfl) (fun w1 c1 => (op_add rfl rfl h61)) ?_
     refine lv 18 (by kernel_rfl) (fun w1 c1 => (om (v := .int .i64 _) rfl)) ?_
     refine ln ?_
     exact xm_lnext () (sc (by kernel_rfl) rfl (sc (by kernel_rfl) rfl (sc (by kernel_rfl) rfl (sc (by kernel_rfl) rfl (sc (by kernel_rfl) rfl (sc (by kernel_rfl) rfl sub_nil)))))) (hsub [] (by kernel_rfl) rfl)
   ·skip
    refine cm_exit ?_
    refine xm_thenE ?_
    refine xm_lexit ?_
    refine xm_here ?_
    exact xm_lnext () (sc (by kernel_rfl) rfl sub_nil) (hsub [] (by kernel_rfl) rfl)
  intro s33 u34
  refine cq ?_
  refine cr ?_
  refine lm_makeMap (κ := ByteArray) (α := Bool) 30 9 Value.string Value.bool (by kernel_rfl) ?_
  intro b62
  refine lv 10 (by kernel_rfl) (fun w1 c1 => (oa (v := .map (some _)) rfl)) ?_
  refine ln ?_
  refine xn ?_
  refine cm_join (σ := Unit) (ξ := Unit) (fun s90 u91 => []) (fun s90 u91 => []) ?_ ?_
  ·skip
   refine cq ?_
   refine cr ?_
   refine lv 31 (by kernel_rfl) (fun w1 c1 => (om (v := .slice _ _ _) rfl)) ?_
   refine lv 32 (by kernel_rfl) (fun w1 c1 => (op_lenN rfl (by kernel_rfl) hz_p0.2.2)) ?_
   refine lv 33 (by kernel_rfl) (fun w1 c1 => (om (v := .int .i64 _) rfl)) ?_
   refine ln ?_
   refine xn ?_
   refine cm_block ?_
   refine cm_loop (σ := (List (ByteArray × Bool)) × Int) (ξ := Unit) (fun s110 u111 => [(10, .map (some b62)), (31, .slice A_p0 n_p0 c_p0), (32, .int .i64 (List.length p0 : Int)), (33, .int .i64 s110.2)]) (fun s110 u111 => [mapE Tryz.prog 9 Value.string Value.bool b62 s110.1]) () ?_ ?_ ?_
   ·exact (sc (by kernel_rfl) rfl (sc (by kernel_rfl) rfl (sc (by kernel_rfl) rfl (sc (by kernel_rfl) rfl sub_nil))))
   ·exact hsub [0] (by kernel_rfl) rfl
   intro s110 u111
   refine cq ?_
   refine cr ?_
   refine lv 34 (by kernel_rfl) (fun w1 c1 => (op_lss rfl rfl)) ?_
   refine ln ?_
   refine xn ?_
   refine cq ?_
   refine cm_cond (by kernel_rfl) rfl (fun h112 => ?_) (fun h112 => ?_)
   ·skip
    refine cm_skip ?_
    refine xn ?_
    refine cq ?_
    refine cm_block ?_
    refine cq ?_
    refine cr ?_
    refine lm_ck (fun h113 => ?_)
    refine lv 35 (by kernel_rfl) (fun w1 c1 => (op_indexA 5 rfl rfl (by kernel_rfl) ((hr_p0.old c1).addr h113.1 h113.2) hz_p0.2.2 h113.1 h113.2)) ?_
    refine lv 36 (by kernel_rfl) (fun w1 c1 => (op_loadR [.string ((ix p0 s110.2).ID), .int .i64 ((ix p0 s110.2).Kind), .int .i64 ((ix p0 s110.2).Litres), .int .i64 ((ix p0 s110.2).Grams), .int .i64 ((ix p0 s110.2).Node)] rfl (by kernel_rfl) ((hr_p0.old c1).row h113.1 h113.2))) ?_
    refine lm_alloc 12 [.string (⟨#[]⟩ : ByteArray), .int .i64 0, .int .i64 0, .int .i64 0, .int .i64 0] (v := .agg #[.string (⟨#[]⟩ : ByteArray), .int .i64 0, .int .i64 0, .int .i64 0, .int .i64 0]) (by kernel_rfl) (by kernel_rfl) rfl ?_
    intro b114
    refine lm_storeA 0 [.string _, .int .i64 _, .int .i64 _, .int .i64 _, .int .i64 _] [_, _, _, _, _] (H' := [blkE _ _ [_, _, _, _, _], _]) (by kernel_rfl) rfl rfl (by kernel_rfl) rfl rfl (by kernel_rfl) rfl rfl ?_
    refine ln ?_
    refine xn ?_
    refine cq ?_
    refine cq ?_
    refine cr ?_
    refine lv 37 (by kernel_rfl) (fun w1 c1 => (om (v := .map (some _)) rfl)) ?_
    refine lv 38 (by kernel_rfl) (fun w1 c1 => (oF (m := 0) (k := 0) rfl (by kernel_rfl) rfl)) ?_
    refine lv 39 (by kernel_rfl) (fun w1 c1 => (ol rfl (by kernel_rfl) (c1.cell 0 (u := .string _) rfl rfl))) ?_
    refine lm_ck (fun h115 => ?_)
    refine lv 40 (by kernel_rfl) (fun w1 c1 => (op_lookup (κ := ByteArray) (α := Bool) (ek := Value.string) (ev := Value.bool) (l := s110.1) (y := ((ix p0 s110.2).ID)) false rfl rfl (Maps.string_keyed Tryz.underlying9) ek_str (key_str Tryz.underlying9 h115) Tryz.underlying102 rfl (c1.map 1 rfl))) ?_
    refine ln ?_
    refine xn ?_
    refine cm_condB (by kernel_rfl) rfl (fun h116 => ?_) (fun h116 => ?_)
    ·skip
     refine cq ?_
     refine cr ?_
     refine lv 6 (by kernel_rfl) (fun w1 c1 => (oa (v := .int .i64 _) rfl)) ?_
     refine ln ?_
     refine xn ?_
     refine cm_ret ?_
     refine xm_thenR ?_
     refine xm_inR ?_
     refine xm_thenR ?_
     refine xm_lret ?_
     refine xm_inR ?_
     refine xm_lret ?_
     exact xm_retT rfl (by kernel_rfl) (show _ = Value.int .i64 _ from rfl) fun w1 c1 => ⟨(), rfl, hsub [] (by kernel_rfl) rfl w1 c1⟩
    ·skip
     refine cm_skip ?_
     refine xn ?_
     refine cr ?_
     refine lv 41 (by kernel_rfl) (fun w1 c1 => (om (v := .map (some _)) rfl)) ?_
     refine lv 42 (by kernel_rfl) (fun w1 c1 => (oF (m := 0) (k := 0) rfl (by kernel_rfl) rfl)) ?_
     refine lv 43 (by kernel_rfl) (fun w1 c1 => (ol rfl (by kernel_rfl) (c1.cell 0 (u := .string _) rfl rfl))) ?_
     refine lm_ck (fun h117 => ?_)
     refine lm_mapUpdate 1 (κ := ByteArray) (α := Bool) (ek := Value.string) (ev := Value.bool) (l := s110.1) (y := ((ix p0 s110.2).ID)) (a := true) (by kernel_rfl) rfl rfl rfl (Maps.string_keyed Tryz.underlying9) ek_str (key_str Tryz.underlying9 h117) Tryz.underlying102 rfl rfl ?_
     refine ln ?_
     refine xm_inN ?_
     refine xn ?_
     refine cr ?_
     refine lm_ck (fun h118 => ?_)
     refine lv 44 (by kernel_rfl) (fun w1 c1 => (op_add rfl rfl h118)) ?_
     refine lv 33 (by kernel_rfl) (fun w1 c1 => (om (v := .int .i64 _) rfl)) ?_
     refine ln ?_
     exact xm_lnext () (sc (by kernel_rfl) rfl (sc (by kernel_rfl) rfl (sc (by kernel_rfl) rfl (sc (by kernel_rfl) rfl sub_nil)))) (hsub [1] (by kernel_rfl) rfl)
   ·skip
    refine cm_exit ?_
    refine xm_thenE ?_
    refine xm_lexit ?_
    refine xm_here ?_
    exact xm_lnext () sub_nil (hsub [] (by kernel_rfl) rfl)
  intro s90 u91
  refine cq ?_
  refine cr ?_
  refine lv 6 (by kernel_rfl) (fun w1 c1 => (oa (v := .int .i64 _) rfl)) ?_
  refine ln ?_
  refine xn ?_
  refine cm_ret ?_
  exact xm_retT rfl (by kernel_rfl) (show _ = Value.int .i64 _ from rfl) fun w1 c1 => ⟨(), rfl, hsub [] (by kernel_rfl) rfl w1 c1⟩
/-- recyclingref13.Check -/
def m_recyclingref13_Check (N : Nat) (p0 : (List ApiContainer)) (p1 : Int) (p2 : Int) : Option (Int) :=
 (if 256 < (List.length p0 : Int) then
  some ((8 : Int))
 else
  (andThen
   (loopM (fun (s93 : Int) =>
    (if s93 < (List.length p0 : Int) then
     ck ((0 : Int) ≤ s93 ∧ s93 < (List.length p0 : Int)) (
      Option.bind (m_recyclingref04_Valid N ((ix p0 s93).ID)) fun r98 => (if (!r98) = true then
       some (.done (.done ((5 : Int))))
      else
       (if ((decide ((ix p0 s93).Kind < 0)) || (decide (p1 ≤ (ix p0 s93).Kind))) = true then
        some (.done (.done ((21 : Int))))
       else
        (if ((((decide ((ix p0 s93).Litres < 1)) || (decide (40000 < (ix p0 s93).Litres))) || (decide ((ix p0 s93).Grams < 1))) || (decide (1073741824 < (ix p0 s93).Grams))) = true then
         some (.done (.done ((1 : Int))))
        else
         (if ((decide ((ix p0 s93).Node < 0)) || (decide (p2 ≤ (ix p0 s93).Node))) = true then
          some (.done (.done ((7 : Int))))
         else
          ck (I64 (s93 + (1 : Int))) (
           some (.next (s93 + (1 : Int)))))))))
    else
     some (.done (.next ())))) N (0 : Int))
  fun (_s57 : Unit) =>
   (andThen
    (loopM (fun (s352 : Int) =>
     (if s352 < (List.length p0 : Int) then
      (andThen
       (loopM (fun (s392 : Int) =>
        (if s392 < s352 then
         ck ((0 : Int) ≤ s352 ∧ s352 < (List.length p0 : Int)) (
          ck ((0 : Int) ≤ s392 ∧ s392 < (List.length p0 : Int)) (
           (if ((ix p0 s352).ID) = ((ix p0 s392).ID) then
            some (.done (.done (.done (.done ((6 : Int))))))
           else
            ck (I64 (s392 + (1 : Int))) (
             some (.next (s392 + (1 : Int)))))))
        else
         some (.done (.next ())))) N (0 : Int))
      fun (_s376 : Unit) =>
       ck (I64 (s352 + (1 : Int))) (
        some (.next (s352 + (1 : Int)))))
     else
      some (.done (.next ())))) N (0 : Int))
   fun (_s254 : Unit) =>
    some ((0 : Int)))))
set_option maxHeartbeats 2000000 in
set_option maxRecDepth 20000 in
theorem m_recyclingref13_Check_ok (N : Nat) (w0 : World) (p0 : (List ApiContainer)) (p1 : Int) (p2 : Int) (A_p0 : Option Addr) (n_p0 c_p0 : Nat) (hr_p0 : RdE w0 5 encApiContainer A_p0 p0) (hz_p0 : SW A_p0 n_p0 c_p0 (List.length p0)) (r : Int) (hr : m_recyclingref13_Check N p0 p1 p2 = some r) :
  Calls Tryz.prog 34 [.slice A_p0 n_p0 c_p0, .int .i64 p1, .int .i64 p2].toArray w0 fun x w1 => ∃ u, x = .returned ((fun (r : Int) (_u : Unit) => .int .i64 r) r u) ∧ Hs w0 ((fun (_r : Int) (_u : Unit) => []) r u) w1 := by
 refine calls_cm (n := 83) (R := fun r x w1 => ∃ u, x = .returned ((fun (r : Int) (_u : Unit) => .int .i64 r) r u) ∧ Hs w0 ((fun (_r : Int) (_u : Unit) => []) r u) w1) Tryz.func34 rfl rfl (Nat.le_of_ble_eq_true rfl) ?_ r hr
 unfold m_recyclingref13_Check
 refine cq ?_
 refine cr ?_
 refine lv 6 (by kernel_rfl) (fun w1 c1 => (oa (v := .int .i64 _) rfl)) ?_
 refine ln ?_
 refine xn ?_
 refine cq ?_
 refine cq ?_
 refine cr ?_
 refine lv 11 (by kernel_rfl) (fun w1 c1 => (om (v := .slice _ _ _) rfl)) ?_
 refine lv 12 (by kernel_rfl) (fun w1 c1 => (op_lenN rfl (by kernel_rfl) hz_p0.2.2)) ?_
 refine lv 13 (by kernel_rfl) (fun w1 c1 => (op_gtr rfl rfl)) ?_
 refine ln ?_
 refine xn ?_
 refine cm_cond (by kernel_rfl) rfl (fun h5 => ?_) (fun h5 => ?_)
 ·skip
  refine cq ?_
  refine cr ?_
  refine lv 6 (by kernel_rfl) (fun w1 c1 => (oa (v := .int .i64 _) rfl)) ?_
  refine ln ?_
  refine xn ?_
  refine cm_ret ?_
  refine xm_thenR ?_
  exact xm_retT rfl (by kernel_rfl) (show _ = Value.int .i64 _ from rfl) fun w1 c1 => ⟨(), rfl, hsub [] (by kernel_rfl) rfl w1 c1⟩
 ·skip
  refine cm_skip ?_
  refine xn ?_
  refine cm_join (σ := Unit) (ξ := Unit) (fun s57 u58 => [(0, .slice A_p0 n_p0 c_p0)]) (fun s57 u58 => []) ?_ ?_
  ·skip
   refine cq ?_
   refine cr ?_
   refine lv 14 (by kernel_rfl) (fun w1 c1 => (om (v := .slice _ _ _) rfl)) ?_
   refine lv 15 (by kernel_rfl) (fun w1 c1 => (op_lenN rfl (by kernel_rfl) hz_p0.2.2)) ?_
   refine lv 16 (by kernel_rfl) (fun w1 c1 => (om (v := .int .i64 _) rfl)) ?_
   refine ln ?_
   refine xn ?_
   refine cm_block ?_
   refine cm_loop (σ := Int) (ξ := Unit) (fun s93 u94 => [(0, .slice A_p0 n_p0 c_p0), (1, .int .i64 p1), (2, .int .i64 p2), (14, .slice A_p0 n_p0 c_p0), (15, .int .i64 (List.length p0 : Int)), (16, .int .i64 s93)]) (fun s93 u94 => []) () ?_ ?_ ?_
   ·exact (sc (by kernel_rfl) rfl (sc (by kernel_rfl) rfl (sc (by kernel_rfl) rfl (sc (by kernel_rfl) rfl (sc (by kernel_rfl) rfl (sc (by kernel_rfl) rfl sub_nil))))))
   ·exact hsub [] (by kernel_rfl) rfl
   intro s93 u94
   refine cq ?_
   refine cr ?_
   refine lv 17 (by kernel_rfl) (fun w1 c1 => (op_lss rfl rfl)) ?_
   refine ln ?_
   refine xn ?_
   refine cq ?_
   refine cm_cond (by kernel_rfl) rfl (fun h95 => ?_) (fun h95 => ?_)
   ·skip
    refine cm_skip ?_
    refine xn ?_
    refine cq ?_
    refine cm_block ?_
    refine cq ?_
    refine cr ?_
    refine lm_ck (fun h96 => ?_)
    refine lv 18 (by kernel_rfl) (fun w1 c1 => (op_indexA 5 rfl rfl (by kernel_rfl) ((hr_p0.old c1).addr h96.1 h96.2) hz_p0.2.2 h96.1 h96.2)) ?_
    refine lv 19 (by kernel_rfl) (fun w1 c1 => (op_loadR [.string ((ix p0 s93).ID), .int .i64 ((ix p0 s93).Kind), .int .i64 ((ix p0 s93).Litres), .int .i64 ((ix p0 s93).Grams), .int .i64 ((ix p0 s93).Node)] rfl (by kernel_rfl) ((hr_p0.old c1).row h96.1 h96.2))) ?_
    refine lm_alloc 8 [.string (⟨#[]⟩ : ByteArray), .int .i64 0, .int .i64 0, .int .i64 0, .int .i64 0] (v := .agg #[.string (⟨#[]⟩ : ByteArray), .int .i64 0, .int .i64 0, .int .i64 0, .int .i64 0]) (by kernel_rfl) (by kernel_rfl) rfl ?_
    intro b97
    refine lm_storeA 0 [.string _, .int .i64 _, .int .i64 _, .int .i64 _, .int .i64 _] [_, _, _, _, _] (H' := [blkE _ _ [_, _, _, _, _]]) (by kernel_rfl) rfl rfl (by kernel_rfl) rfl rfl (by kernel_rfl) rfl rfl ?_
    refine ln ?_
    refine xn ?_
    refine cq ?_
    refine cq ?_
    refine cr ?_
    refine lv 20 (by kernel_rfl) (fun w1 c1 => (oF (m := 0) (k := 0) rfl (by kernel_rfl) rfl)) ?_
    refine lv 21 (by kernel_rfl) (fun w1 c1 => (ol rfl (by kernel_rfl) (c1.cell 0 (u := .string _) rfl rfl))) ?_
    refine lm_call 22 (V := (fun (r : Bool) (_u : Unit) => .bool r)) (HR := (fun (_r : Bool) (_u : Unit) => [])) (by kernel_rfl) (fun w1 => op_call (by kernel_rfl)) (fun r1 hr1 w1 c1 => m_recyclingref04_Valid_ok N w1 ((ix p0 s93).ID)  r1 hr1) ?_
    intro r98 u99
    refine lv 23 (by kernel_rfl) (fun w1 c1 => (op_not rfl)) ?_
    refine ln ?_
    refine xn ?_
    refine cm_condB (by kernel_rfl) rfl (fun h100 => ?_) (fun h100 => ?_)
    ·skip
     refine cq ?_
     refine cr ?_
     refine lv 6 (by kernel_rfl) (fun w1 c1 => (oa (v := .int .i64 _) rfl)) ?_
     refine ln ?_
     refine xn ?_
     refine cm_ret ?_
     refine xm_thenR ?_
     refine xm_inR ?_
     refine xm_thenR ?_
     refine xm_lret ?_
     refine xm_inR ?_
     refine xm_lret ?_
     exact xm_retT rfl (by kernel_rfl) (show _ = Value.int .i64 _ from rfl) fun w1 c1 => ⟨(), rfl, hsub [] (by kernel_rfl) rfl w1 c1⟩
    ·skip
     refine cm_skip ?_
     refine xn ?_
     refine cq ?_
     refine cq ?_
     refine cm_cutE [(32, .bool ((decide ((ix p0 s93).Kind < 0)) || (decide (p1 ≤ (ix p0 s93).Kind))))] ?_ ?_
     ·skip
      refine wv 24 (by kernel_rfl) (fun w1 c1 => (oF (m := 1) (k := 1) rfl (by kernel_rfl) rfl)) ?_
      refine wv 25 (by kernel_rfl) (fun w1 c1 => (ol rfl (by kernel_rfl) (c1.cell 0 (u := .int .i64 _) rfl rfl))) ?_
      refine wq_dec 26 (by kernel_rfl) (fun w1 c1 => (op_lss rfl rfl)) (fun h101 => ?_) (fun h101 => ?_)
      ·skip
       refine wv 27 (by kernel_rfl) (fun w1 c1 => (om (v := .bool true) rfl)) ?_
       refine wk 28 (by kernel_rfl) ?_
       refine wk 29 (by kernel_rfl) ?_
       refine wk 30 (by kernel_rfl) ?_
       refine wk 31 (by kernel_rfl) ?_
       refine wv 32 (by kernel_rfl) (fun w1 c1 => (opt (v := .bool true) rfl rfl)) ?_
       exact leaf_q (sub_out 9 _ rfl (by kernel_rfl) ⟨(congrArg Value.bool (by rw [decide_eq_true h101] <;> rfl)), trivial⟩)
      ·skip
       refine wv 27 (by kernel_rfl) (fun w1 c1 => (om (v := .bool false) rfl)) ?_
       refine wv 28 (by kernel_rfl) (fun w1 c1 => (oF (m := 1) (k := 1) rfl (by kernel_rfl) rfl)) ?_
       refine wv 29 (by kernel_rfl) (fun w1 c1 => (ol rfl (by kernel_rfl) (c1.cell 0 (u := .int .i64 _) rfl rfl))) ?_
       refine wv 30 (by kernel_rfl) (fun w1 c1 => (om (v := .int .i64 _) rfl)) ?_
       refine wv 31 (by kernel_rfl) (fun w1 c1 => (op_geq rfl rfl)) ?_
       refine wv 32 (by kernel_rfl) (fun w1 c1 => (opf (v := .bool _) rfl rfl)) ?_
       exact leaf_q (sub_out 9 _ rfl (by kernel_rfl) ⟨(congrArg Value.bool (by rw [decide_eq_false h101] <;> rfl)), trivial⟩)
     refine xn ?_
     refine cm_condB (by kernel_rfl) rfl (fun h102 => ?_) (fun h102 => ?_)
     ·skip
      refine cq ?_
      refine cr ?_
      refine lv 6 (by kernel_rfl) (fun w1 c1 => (oa (v := .int .i64 _) rfl)) ?_
      refine ln ?_
      refine xn ?_
      refine cm_ret ?_
      refine xm_thenR ?_
      refine xm_inR ?_
      refine xm_thenR ?_
      refine xm_lret ?_
      refine xm_inR ?_
      refine xm_lret ?_
      exact xm_retT rfl (by kernel_rfl) (show _ = Value.int .i64 _ from rfl) fun w1 c1 => ⟨(), rfl, hsub [] (by kernel_rfl) rfl w1 c1⟩
     ·skip
      refine cm_skip ?_
      refine xn ?_
      refine cq ?_
      refine cq ?_
      refine cm_cutE [(50, .bool ((((decide ((ix p0 s93).Litres < 1)) || (decide (40000 < (ix p0 s93).Litres))) || (decide ((ix p0 s93).Grams < 1))) || (decide (1073741824 < (ix p0 s93).Grams))))] ?_ ?_
      ·skip
       refine wv 33 (by kernel_rfl) (fun w1 c1 => (oF (m := 2) (k := 2) rfl (by kernel_rfl) rfl)) ?_
       refine wv 34 (by kernel_rfl) (fun w1 c1 => (ol rfl (by kernel_rfl) (c1.cell 0 (u := .int .i64 _) rfl rfl))) ?_
       refine wq_dec 35 (by kernel_rfl) (fun w1 c1 => (op_lss rfl rfl)) (fun h103 => ?_) (fun h103 => ?_)
       ·skip
        refine wv 36 (by kernel_rfl) (fun w1 c1 => (om (v := .bool true) rfl)) ?_
        refine wk 37 (by kernel_rfl) ?_
        refine wk 38 (by kernel_rfl) ?_
        refine wk 39 (by kernel_rfl) ?_
        refine wv 40 (by kernel_rfl) (fun w1 c1 => (opt (v := .bool true) rfl rfl)) ?_
        refine wv 41 (by kernel_rfl) (fun w1 c1 => (om (v := .bool true) rfl)) ?_
        refine wk 42 (by kernel_rfl) ?_
        refine wk 43 (by kernel_rfl) ?_
        refine wk 44 (by kernel_rfl) ?_
        refine wv 45 (by kernel_rfl) (fun w1 c1 => (opt (v := .bool true) rfl rfl)) ?_
        refine wv 46 (by kernel_rfl) (fun w1 c1 => (om (v := .bool true) rfl)) ?_
        refine wk 47 (by kernel_rfl) ?_
        refine wk 48 (by kernel_rfl) ?_
        refine wk 49 (by kernel_rfl) ?_
        refine wv 50 (by kernel_rfl) (fun w1 c1 => (opt (v := .bool true) rfl rfl)) ?_
        exact leaf_q (sub_out 18 _ rfl (by kernel_rfl) ⟨(congrArg Value.bool (by rw [decide_eq_true h103] <;> rfl)), trivial⟩)
       ·skip
        refine wv 36 (by kernel_rfl) (fun w1 c1 => (om (v := .bool false) rfl)) ?_
        refine wv 37 (by kernel_rfl) (fun w1 c1 => (oF (m := 2) (k := 2) rfl (by kernel_rfl) rfl)) ?_
        refine wv 38 (by kernel_rfl) (fun w1 c1 => (ol rfl (by kernel_rfl) (c1.cell 0 (u := .int .i64 _) rfl rfl))) ?_
        refine wq_dec 39 (by kernel_rfl) (fun w1 c1 => (op_gtr rfl rfl)) (fun h104 => ?_) (fun h104 => ?_)
        ·skip
         refine wv 40 (by kernel_rfl) (fun w1 c1 => (opf (v := .bool true) rfl rfl)) ?_
         refine wv 41 (by kernel_rfl) (fun w1 c1 => (om (v := .bool true) rfl)) ?_
         refine wk 42 (by kernel_rfl) ?_
         refine wk 43 (by kernel_rfl) ?_
         refine wk 44 (by kernel_rfl) ?_
         refine wv 45 (by kernel_rfl) (fun w1 c1 => (opt (v := .bool true) rfl rfl)) ?_
         refine wv 46 (by kernel_rfl) (fun w1 c1 => (om (v := .bool true) rfl)) ?_
         refine wk 47 (by kernel_rfl) ?_
         refine wk 48 (by kernel_rfl) ?_
         refine wk 49 (by kernel_rfl) ?_
         refine wv 50 (by kernel_rfl) (fun w1 c1 => (opt (v := .bool true) rfl rfl)) ?_
         exact leaf_q (sub_out 18 _ rfl (by kernel_rfl) ⟨(congrArg Value.bool (by rw [decide_eq_false h103, decide_eq_true h104] <;> rfl)), trivial⟩)
        ·skip
         refine wv 40 (by kernel_rfl) (fun w1 c1 => (opf (v := .bool false) rfl rfl)) ?_
         refine wv 41 (by kernel_rfl) (fun w1 c1 => (om (v := .bool false) rfl)) ?_
         refine wv 42 (by kernel_rfl) (fun w1 c1 => (oF (m := 3) (k := 3) rfl (by kernel_rfl) rfl)) ?_
         refine wv 43 (by kernel_rfl) (fun w1 c1 => (ol rfl (by kernel_rfl) (c1.cell 0 (u := .int .i64 _) rfl rfl))) ?_
         refine wq_dec 44 (by kernel_rfl) (fun w1 c1 => (op_lss rfl rfl)) (fun h105 => ?_) (fun h105 => ?_)
         ·skip
          refine wv 45 (by kernel_rfl) (fun w1 c1 => (opf (v := .bool true) rfl rfl)) ?_
          refine wv 46 (by kernel_rfl) (fun w1 c1 => (om (v := .bool true) rfl)) ?_
          refine wk 47 (by kernel_rfl) ?_
          refine wk 48 (by kernel_rfl) ?_
          refine wk 49 (by kernel_rfl) ?_
          refine wv 50 (by kernel_rfl) (fun w1 c1 => (opt (v := .bool true) rfl rfl)) ?_
          exact leaf_q (sub_out 18 _ rfl (by kernel_rfl) ⟨(congrArg Value.bool (by rw [decide_eq_false h103, decide_eq_false h104, decide_eq_true h105] <;> rfl)), trivial⟩)
         ·skip
          refine wv 45 (by kernel_rfl) (fun w1 c1 => (opf (v := .bool false) rfl rfl)) ?_
          refine wv 46 (by kernel_rfl) (fun w1 c1 => (om (v := .bool false) rfl)) ?_
          refine wv 47 (by kernel_rfl) (fun w1 c1 => (oF (m := 3) (k := 3) rfl (by kernel_rfl) rfl)) ?_
          refine wv 48 (by kernel_rfl) (fun w1 c1 => (ol rfl (by kernel_rfl) (c1.cell 0 (u := .int .i64 _) rfl rfl))) ?_
          refine wv 49 (by kernel_rfl) (fun w1 c1 => (op_gtr rfl rfl)) ?_
          refine wv 50 (by kernel_rfl) (fun w1 c1 => (opf (v := .bool _) rfl rfl)) ?_
          exact leaf_q (sub_out 18 _ rfl (by kernel_rfl) ⟨(congrArg Value.bool (by rw [decide_eq_false h103, decide_eq_false h104, decide_eq_false h105] <;> rfl)), trivial⟩)
      refine xn ?_
      refine cm_condB (by kernel_rfl) rfl (fun h106 => ?_) (fun h106 => ?_)
      ·skip
       refine cq ?_
       refine cr ?_
       refine lv 6 (by kernel_rfl) (fun w1 c1 => (oa (v := .int .i64 _) rfl)) ?_
       refine ln ?_
       refine xn ?_
       refine cm_ret ?_
       refine xm_thenR ?_
       refine xm_inR ?_
       refine xm_thenR ?_
       refine xm_lret ?_
       refine xm_inR ?_
       refine xm_lret ?_
       exact xm_retT rfl (by kernel_rfl) (show _ = Value.int .i64 _ from rfl) fun w1 c1 => ⟨(), rfl, hsub [] (by kernel_rfl) rfl w1 c1⟩
      ·skip
       refine cm_skip ?_
       refine xn ?_
       refine cq ?_
       refine cm_cutE [(59, .bool ((decide ((ix p0 s93).Node < 0)) || (decide (p2 ≤ (ix p0 s93).Node))))] ?_ ?_
       ·skip
        refine wv 51 (by kernel_rfl) (fun w1 c1 => (oF (m := 4) (k := 4) rfl (by kernel_rfl) rfl)) ?_
        refine wv 52 (by kernel_rfl) (fun w1 c1 => (ol rfl (by kernel_rfl) (c1.cell 0 (u := .int .i64 _) rfl rfl))) ?_
        refine wq_dec 53 (by kernel_rfl) (fun w1 c1 => (op_lss rfl rfl)) (fun h107 => ?_) (fun h107 => ?_)
        ·skip
         refine wv 54 (by kernel_rfl) (fun w1 c1 => (om (v := .bool true) rfl)) ?_
         refine wk 55 (by kernel_rfl) ?_
         refine wk 56 (by kernel_rfl) ?_
         refine wk 57 (by kernel_rfl) ?_
         refine wk 58 (by kernel_rfl) ?_
         refine wv 59 (by kernel_rfl) (fun w1 c1 => (opt (v := .bool true) rfl rfl)) ?_
         exact leaf_q (sub_out 9 _ rfl (by kernel_rfl) ⟨(congrArg Value.bool (by rw [decide_eq_true h107] <;> rfl)), trivial⟩)
        ·skip
         refine wv 54 (by kernel_rfl) (fun w1 c1 => (om (v := .bool false) rfl)) ?_
         refine wv 55 (by kernel_rfl) (fun w1 c1 => (oF (m := 4) (k := 4) rfl (by kernel_rfl) rfl)) ?_
         refine wv 56 (by kernel_rfl) (fun w1 c1 => (ol rfl (by kernel_rfl) (c1.cell 0 (u := .int .i64 _) rfl rfl))) ?_
         refine wv 57 (by kernel_rfl) (fun w1 c1 => (om (v := .int .i64 _) rfl)) ?_
         refine wv 58 (by kernel_rfl) (fun w1 c1 => (op_geq rfl rfl)) ?_
         refine wv 59 (by kernel_rfl) (fun w1 c1 => (opf (v := .bool _) rfl rfl)) ?_
         exact leaf_q (sub_out 9 _ rfl (by kernel_rfl) ⟨(congrArg Value.bool (by rw [decide_eq_false h107] <;> rfl)), trivial⟩)
       refine xn ?_
       refine cm_condB (by kernel_rfl) rfl (fun h108 => ?_) (fun h108 => ?_)
       ·skip
        refine cq ?_
        refine cr ?_
        refine lv 6 (by kernel_rfl) (fun w1 c1 => (oa (v := .int .i64 _) rfl)) ?_
        refine ln ?_
        refine xn ?_
        refine cm_ret ?_
        refine xm_inR ?_
        refine xm_thenR ?_
        refine xm_lret ?_
        refine xm_inR ?_
        refine xm_lret ?_
        exact xm_retT rfl (by kernel_rfl) (show _ = Value.int .i64 _ from rfl) fun w1 c1 => ⟨(), rfl, hsub [] (by kernel_rfl) rfl w1 c1⟩
       ·skip
        refine cm_skip ?_
        refine xm_inN ?_
        refine xn ?_
        refine cr ?_
        refine lm_ck (fun h109 => ?_)
        refine lv 60 (by kernel_rfl) (fun w1 c1 => (op_add rfl rfl h109)) ?_
        refine lv 16 (by kernel_rfl) (fun w1 c1 => (om (v := .int .i64 _) rfl)) ?_
        refine ln ?_
        exact xm_lnext () (sc (by kernel_rfl) rfl (sc (by kernel_rfl) rfl (sc (by kernel_rfl) rfl (sc (by kernel_rfl) rfl (sc (by kernel_rfl) rfl (sc (by kernel_rfl) rfl sub_nil)))))) (hsub [] (by kernel_rfl) rfl)
   ·skip
    refine cm_exit ?_
    refine xm_thenE ?_
    refine xm_lexit ?_
    refine xm_here ?_
    exact xm_lnext () (sc (by kernel_rfl) rfl sub_nil) (hsub [] (by kernel_rfl) rfl)
  intro s57 u58
  refine cm_join (σ := Unit) (ξ := Unit) (fun s254 u255 => []) (fun s254 u255 => []) ?_ ?_
  ·skip
   refine cq ?_
   refine cr ?_
   refine lv 61 (by kernel_rfl) (fun w1 c1 => (om (v := .slice _ _ _) rfl)) ?_
   refine lv 62 (by kernel_rfl) (fun w1 c1 => (op_lenN rfl (by kernel_rfl) hz_p0.2.2)) ?_
   refine lv 63 (by kernel_rfl) (fun w1 c1 => (om (v := .int .i64 _) rfl)) ?_
   refine ln ?_
   refine xn ?_
   refine cm_block ?_
   refine cm_loop (σ := Int) (ξ := Unit) (fun s352 u353 => [(0, .slice A_p0 n_p0 c_p0), (62, .int .i64 (List.length p0 : Int)), (63, .int .i64 s352)]) (fun s352 u353 => []) () ?_ ?_ ?_
   ·exact (sc (by kernel_rfl) rfl (sc (by kernel_rfl) rfl (sc (by kernel_rfl) rfl sub_nil)))
   ·exact hsub [] (by kernel_rfl) rfl
   intro s352 u353
   refine cq ?_
   refine cr ?_
   refine lv 64 (by kernel_rfl) (fun w1 c1 => (op_lss rfl rfl)) ?_
   refine ln ?_
   refine xn ?_
   refine cq ?_
   refine cm_cond (by kernel_rfl) rfl (fun h354 => ?_) (fun h354 => ?_)
   ·skip
    refine cm_skip ?_
    refine xn ?_
    refine cm_join (σ := Unit) (ξ := Unit) (fun s376 u377 => [(0, .slice A_p0 n_p0 c_p0), (62, .int .i64 (List.length p0 : Int)), (63, .int .i64 s352)]) (fun s376 u377 => []) ?_ ?_
    ·skip
     refine cm_block ?_
     refine cq ?_
     refine cr ?_
     refine lv 65 (by kernel_rfl) (fun w1 c1 => (om (v := .int .i64 _) rfl)) ?_
     refine lv 9 (by kernel_rfl) (fun w1 c1 => (oa (v := .int .i64 _) rfl)) ?_
     refine ln ?_
     refine xn ?_
     refine cq ?_
     refine cr ?_
     refine lv 10 (by kernel_rfl) (fun w1 c1 => (oa (v := .int .i64 _) rfl)) ?_
     refine ln ?_
     refine xn ?_
     refine cm_block ?_
     refine cm_loop (σ := Int) (ξ := Unit) (fun s392 u393 => [(0, .slice A_p0 n_p0 c_p0), (9, .int .i64 s352), (10, .int .i64 s392), (62, .int .i64 (List.length p0 : Int)), (63, .int .i64 s352)]) (fun s392 u393 => []) () ?_ ?_ ?_
     ·exact (sc (by kernel_rfl) rfl (sc (by kernel_rfl) rfl (sc (by kernel_rfl) rfl (sc (by kernel_rfl) rfl (sc (by kernel_rfl) rfl sub_nil)))))
     ·exact hsub [] (by kernel_rfl) rfl
     intro s392 u393
     refine cq ?_
     refine cq ?_
     refine cr ?_
     refine lv 66 (by kernel_rfl) (fun w1 c1 => (om (v := .int .i64 _) rfl)) ?_
     refine lv 67 (by kernel_rfl) (fun w1 c1 => (om (v := .int .i64 _) rfl)) ?_
     refine lv 68 (by kernel_rfl) (fun w1 c1 => (op_lss rfl rfl)) ?_
     refine ln ?_
     refine xn ?_
     refine cm_cond (by kernel_rfl) rfl (fun h394 => ?_) (fun h394 => ?_)
     ·skip
      refine cm_skip ?_
      refine xn ?_
      refine cq ?_
      refine cm_block ?_
      refine cq ?_
      refine cm_ck (fun h395 => ?_)
      refine cm_ck (fun h396 => ?_)
      refine cm_drawn [(81, .bool (decide (((ix p0 s352).ID) = ((ix p0 s392).ID))))] (by kernel_rfl) (by kernel_rfl) ?_ ?_
      ·skip
       refine wv 71 (by kernel_rfl) (fun w1 c1 => (om (v := .slice _ _ _) rfl)) ?_
       refine wv 72 (by kernel_rfl) (fun w1 c1 => (om (v := .int .i64 _) rfl)) ?_
       refine wv 73 (by kernel_rfl) (fun w1 c1 => (op_indexA 5 rfl rfl (by kernel_rfl) ((hr_p0.old c1).addr h395.1 h395.2) hz_p0.2.2 h395.1 h395.2)) ?_
       refine wv 74 (by kernel_rfl) (fun w1 c1 => (op_field0 rfl (by kernel_rfl))) ?_
       refine wv 75 (by kernel_rfl) (fun w1 c1 => (ol (v := .string ((ix p0 s352).ID)) rfl (by kernel_rfl) ((hr_p0.old c1).cell0 h395.1 h395.2 rfl))) ?_
       refine wv 76 (by kernel_rfl) (fun w1 c1 => (om (v := .slice _ _ _) rfl)) ?_
       refine wv 77 (by kernel_rfl) (fun w1 c1 => (om (v := .int .i64 _) rfl)) ?_
       refine wv 78 (by kernel_rfl) (fun w1 c1 => (op_indexA 5 rfl rfl (by kernel_rfl) ((hr_p0.old c1).addr h396.1 h396.2) hz_p0.2.2 h396.1 h396.2)) ?_
       refine wv 79 (by kernel_rfl) (fun w1 c1 => (op_field0 rfl (by kernel_rfl))) ?_
       refine wv 80 (by kernel_rfl) (fun w1 c1 => (ol (v := .string ((ix p0 s392).ID)) rfl (by kernel_rfl) ((hr_p0.old c1).cell0 h396.1 h396.2 rfl))) ?_
       refine wv 81 (by kernel_rfl) (fun w1 c1 => (op_eqlS rfl rfl)) ?_
       exact leaf_q (sub_out 11 _ rfl (by kernel_rfl) ⟨rfl, trivial⟩)
      refine xn ?_
      refine cm_cond (by kernel_rfl) rfl (fun h397 => ?_) (fun h397 => ?_)
      ·skip
       refine cq ?_
       refine cr ?_
       refine lv 6 (by kernel_rfl) (fun w1 c1 => (oa (v := .int .i64 _) rfl)) ?_
       refine ln ?_
       refine xn ?_
       refine cm_ret ?_
       refine xm_inR ?_
       refine xm_thenR ?_
       refine xm_lret ?_
       refine xm_inR ?_
       refine xm_inR ?_
       refine xm_lret ?_
       refine xm_lret ?_
       refine xm_inR ?_
       refine xm_lret ?_
       exact xm_retT rfl (by kernel_rfl) (show _ = Value.int .i64 _ from rfl) fun w1 c1 => ⟨(), rfl, hsub [] (by kernel_rfl) rfl w1 c1⟩
      ·skip
       refine cm_skip ?_
       refine xm_inN ?_
       refine xn ?_
       refine cr ?_
       refine lv 69 (by kernel_rfl) (fun w1 c1 => (om (v := .int .i64 _) rfl)) ?_
       refine lm_ck (fun h398 => ?_)
       refine lv 70 (by kernel_rfl) (fun w1 c1 => (op_add rfl rfl h398)) ?_
       refine lv 10 (by kernel_rfl) (fun w1 c1 => (oa (v := .int .i64 _) rfl)) ?_
       refine ln ?_
       exact xm_lnext () (sc (by kernel_rfl) rfl (sc (by kernel_rfl) rfl (sc (by kernel_rfl) rfl (sc (by kernel_rfl) rfl (sc (by kernel_rfl) rfl sub_nil))))) (hsub [] (by kernel_rfl) rfl)
     ·skip
      refine cm_exit ?_
      refine xm_thenE ?_
      refine xm_lexit ?_
      refine xm_here ?_
      refine xm_inN ?_
      exact xm_lnext () (sc (by kernel_rfl) rfl (sc (by kernel_rfl) rfl (sc (by kernel_rfl) rfl sub_nil))) (hsub [] (by kernel_rfl) rfl)
    intro s376 u377
    refine cr ?_
    refine lm_ck (fun h399 => ?_)
    refine lv 82 (by kernel_rfl) (fun w1 c1 => (op_add rfl rfl h399)) ?_
    refine lv 63 (by kernel_rfl) (fun w1 c1 => (om (v := .int .i64 _) rfl)) ?_
    refine ln ?_
    exact xm_lnext () (sc (by kernel_rfl) rfl (sc (by kernel_rfl) rfl (sc (by kernel_rfl) rfl sub_nil))) (hsub [] (by kernel_rfl) rfl)
   ·skip
    refine cm_exit ?_
    refine xm_thenE ?_
    refine xm_lexit ?_
    refine xm_here ?_
    exact xm_lnext () sub_nil (hsub [] (by kernel_rfl) rfl)
  intro s254 u255
  refine cq ?_
  refine cr ?_
  refine lv 6 (by kernel_rfl) (fun w1 c1 => (oa (v := .int .i64 _) rfl)) ?_
  refine ln ?_
  refine xn ?_
  refine cm_ret ?_
  exact xm_retT rfl (by kernel_rfl) (show _ = Value.int .i64 _ from rfl) fun w1 c1 => ⟨(), rfl, hsub [] (by kernel_rfl) rfl w1 c1⟩
end Go.Proofs.YtljogldcejcikaaGreat
