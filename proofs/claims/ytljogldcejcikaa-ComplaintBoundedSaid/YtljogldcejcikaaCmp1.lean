/- Models of functions, and that the code follows them. Written by deco.py. -/
import Derived.Test.YtljogldcejcikaaEmp2
namespace Go.Proofs.Ytljogldcejcikaa
open Go.RowKit

/-- ident.letter -/
def m_ident_letter (_N : Nat) (p0 : Int) : Option (Bool) :=
  some ((((decide (97 ≤ p0)) && (decide (p0 ≤ 122))) || ((decide (65 ≤ p0)) && (decide (p0 ≤ 90)))))
set_option maxRecDepth 20000 in
theorem m_ident_letter_ok (N : Nat) (w0 : World) (p0 : Int)   (r : Bool) (hr : m_ident_letter N p0 = some r) :
    Calls Try.prog 81 [.int .u8 p0].toArray w0 fun x w1 => ∃ u, x = .returned ((fun (r : Bool) (_u : Unit) => .bool r) r u) ∧ Hs w0 ((fun (_r : Bool) (_u : Unit) => []) r u) w1 := by
  refine calls_cm (n := 17) (R := fun r x w1 => ∃ u, x = .returned ((fun (r : Bool) (_u : Unit) => .bool r) r u) ∧ Hs w0 ((fun (_r : Bool) (_u : Unit) => []) r u) w1) Try.func81 rfl rfl (Nat.le_of_ble_eq_true rfl) ?_ r hr
  unfold m_ident_letter
  refine cm_seq ?_
  refine cm_region ?_
  refine lm_val 2 (by kernel_rfl) (fun w1 c1 => (op_assign (v := .bool false) rfl)) ?_
  refine lm_nil ?_
  refine xm_next ?_
  refine cm_seq ?_
  refine cm_cutE [(2, .bool (((decide (97 ≤ p0)) && (decide (p0 ≤ 122))) || ((decide (65 ≤ p0)) && (decide (p0 ≤ 90)))))] ?_ ?_
  · skip
    refine wq_val 3 (by kernel_rfl) (fun w1 c1 => (op_move (v := .int .u8 _) rfl)) ?_
    refine wq_dec 4 (by kernel_rfl) (fun w1 c1 => (op_geqK rfl rfl)) (fun h5 => ?_) (fun h5 => ?_)
    · skip
      refine wq_val 5 (by kernel_rfl) (fun w1 c1 => (op_move (v := .bool true) rfl)) ?_
      refine wq_val 6 (by kernel_rfl) (fun w1 c1 => (op_move (v := .int .u8 _) rfl)) ?_
      refine wq_dec 7 (by kernel_rfl) (fun w1 c1 => (op_leqK rfl rfl)) (fun h6 => ?_) (fun h6 => ?_)
      · skip
        refine wq_val 8 (by kernel_rfl) (fun w1 c1 => (op_pick_t (v := .bool true) rfl rfl)) ?_
        refine wq_val 9 (by kernel_rfl) (fun w1 c1 => (op_move (v := .bool true) rfl)) ?_
        refine wq_skip 10 (by kernel_rfl) ?_
        refine wq_skip 11 (by kernel_rfl) ?_
        refine wq_skip 12 (by kernel_rfl) ?_
        refine wq_skip 13 (by kernel_rfl) ?_
        refine wq_skip 14 (by kernel_rfl) ?_
        refine wq_skip 15 (by kernel_rfl) ?_
        refine wq_val 16 (by kernel_rfl) (fun w1 c1 => (op_pick_t (v := .bool true) rfl rfl)) ?_
        refine wq_val 2 (by kernel_rfl) (fun w1 c1 => (op_assign (v := .bool true) rfl)) ?_
        exact leaf_q (sub_out 15 _ rfl (by kernel_rfl) ⟨(congrArg Value.bool (by rw [decide_eq_true h5, decide_eq_true h6] <;> rfl)), trivial⟩)
      · skip
        refine wq_val 8 (by kernel_rfl) (fun w1 c1 => (op_pick_t (v := .bool false) rfl rfl)) ?_
        refine wq_val 9 (by kernel_rfl) (fun w1 c1 => (op_move (v := .bool false) rfl)) ?_
        refine wq_val 10 (by kernel_rfl) (fun w1 c1 => (op_move (v := .int .u8 _) rfl)) ?_
        refine wq_dec 11 (by kernel_rfl) (fun w1 c1 => (op_geqK rfl rfl)) (fun h7 => ?_) (fun h7 => ?_)
        · skip
          refine wq_val 12 (by kernel_rfl) (fun w1 c1 => (op_move (v := .bool true) rfl)) ?_
          refine wq_val 13 (by kernel_rfl) (fun w1 c1 => (op_move (v := .int .u8 _) rfl)) ?_
          refine wq_val 14 (by kernel_rfl) (fun w1 c1 => (op_leqK rfl rfl)) ?_
          refine wq_val 15 (by kernel_rfl) (fun w1 c1 => (op_pick_t (v := .bool _) rfl rfl)) ?_
          refine wq_val 16 (by kernel_rfl) (fun w1 c1 => (op_pick_f (v := .bool _) rfl rfl)) ?_
          refine wq_val 2 (by kernel_rfl) (fun w1 c1 => (op_assign (v := .bool _) rfl)) ?_
          exact leaf_q (sub_out 15 _ rfl (by kernel_rfl) ⟨(congrArg Value.bool (by rw [decide_eq_true h5, decide_eq_false h6, decide_eq_true h7] <;> rfl)), trivial⟩)
        · skip
          refine wq_val 12 (by kernel_rfl) (fun w1 c1 => (op_move (v := .bool false) rfl)) ?_
          refine wq_skip 13 (by kernel_rfl) ?_
          refine wq_skip 14 (by kernel_rfl) ?_
          refine wq_val 15 (by kernel_rfl) (fun w1 c1 => (op_pick_f (v := .bool false) rfl rfl)) ?_
          refine wq_val 16 (by kernel_rfl) (fun w1 c1 => (op_pick_f (v := .bool false) rfl rfl)) ?_
          refine wq_val 2 (by kernel_rfl) (fun w1 c1 => (op_assign (v := .bool false) rfl)) ?_
          exact leaf_q (sub_out 15 _ rfl (by kernel_rfl) ⟨(congrArg Value.bool (by rw [decide_eq_true h5, decide_eq_false h6, decide_eq_false h7] <;> rfl)), trivial⟩)
    · skip
      refine wq_val 5 (by kernel_rfl) (fun w1 c1 => (op_move (v := .bool false) rfl)) ?_
      refine wq_skip 6 (by kernel_rfl) ?_
      refine wq_skip 7 (by kernel_rfl) ?_
      refine wq_val 8 (by kernel_rfl) (fun w1 c1 => (op_pick_f (v := .bool false) rfl rfl)) ?_
      refine wq_val 9 (by kernel_rfl) (fun w1 c1 => (op_move (v := .bool false) rfl)) ?_
      refine wq_val 10 (by kernel_rfl) (fun w1 c1 => (op_move (v := .int .u8 _) rfl)) ?_
      refine wq_dec 11 (by kernel_rfl) (fun w1 c1 => (op_geqK rfl rfl)) (fun h8 => ?_) (fun h8 => ?_)
      · skip
        refine wq_val 12 (by kernel_rfl) (fun w1 c1 => (op_move (v := .bool true) rfl)) ?_
        refine wq_val 13 (by kernel_rfl) (fun w1 c1 => (op_move (v := .int .u8 _) rfl)) ?_
        refine wq_val 14 (by kernel_rfl) (fun w1 c1 => (op_leqK rfl rfl)) ?_
        refine wq_val 15 (by kernel_rfl) (fun w1 c1 => (op_pick_t (v := .bool _) rfl rfl)) ?_
        refine wq_val 16 (by kernel_rfl) (fun w1 c1 => (op_pick_f (v := .bool _) rfl rfl)) ?_
        refine wq_val 2 (by kernel_rfl) (fun w1 c1 => (op_assign (v := .bool _) rfl)) ?_
        exact leaf_q (sub_out 15 _ rfl (by kernel_rfl) ⟨(congrArg Value.bool (by rw [decide_eq_false h5, decide_eq_true h8] <;> rfl)), trivial⟩)
      · skip
        refine wq_val 12 (by kernel_rfl) (fun w1 c1 => (op_move (v := .bool false) rfl)) ?_
        refine wq_skip 13 (by kernel_rfl) ?_
        refine wq_skip 14 (by kernel_rfl) ?_
        refine wq_val 15 (by kernel_rfl) (fun w1 c1 => (op_pick_f (v := .bool false) rfl rfl)) ?_
        refine wq_val 16 (by kernel_rfl) (fun w1 c1 => (op_pick_f (v := .bool false) rfl rfl)) ?_
        refine wq_val 2 (by kernel_rfl) (fun w1 c1 => (op_assign (v := .bool false) rfl)) ?_
        exact leaf_q (sub_out 15 _ rfl (by kernel_rfl) ⟨(congrArg Value.bool (by rw [decide_eq_false h5, decide_eq_false h8] <;> rfl)), trivial⟩)
  refine xm_next ?_
  refine cm_ret ?_
  exact xm_retT rfl (by kernel_rfl) (show _ = Value.bool _ from rfl) fun w1 c1 => ⟨(), rfl, hsub [] (by kernel_rfl) rfl w1 c1⟩
/-- ident.Valid -/
def m_ident_Valid (N : Nat) (p0 : ByteArray) : Option (Bool) :=
  ck ((!((decide ((ByteArray.size p0 : Int) < 1)) || (decide (32 < (ByteArray.size p0 : Int))))) = true → (0 : Int) ≤ 0 ∧ 0 < (ByteArray.size p0 : Int)) (
    callIf ((!((decide ((ByteArray.size p0 : Int) < 1)) || (decide (32 < (ByteArray.size p0 : Int))))) = true) (m_ident_letter N (bget p0 (0 : Int))) fun r6 => (if (((decide ((ByteArray.size p0 : Int) < 1)) || (decide (32 < (ByteArray.size p0 : Int)))) || (!r6)) = true then
      some (false)
    else
      (andThen
        (loopM (fun (s88 : Int) =>
          (if s88 < (ByteArray.size p0 : Int) then
            ck ((0 : Int) ≤ s88 ∧ s88 < (ByteArray.size p0 : Int)) (
              Option.bind (m_ident_letter N (bget p0 s88)) fun r92 => (if (((((!r92) && ((decide ((bget p0 s88) < 48)) || (decide (57 < (bget p0 s88))))) && (decide ((bget p0 s88) ≠ 45))) && (decide ((bget p0 s88) ≠ 95))) && (decide ((bget p0 s88) ≠ 46))) = true then
                some (.done (.done (false)))
              else
                ck (I64 (s88 + (1 : Int))) (
                  some (.next (s88 + (1 : Int))))))
          else
            some (.done (.next ())))) N (1 : Int))
      fun (_s56 : Unit) =>
        some (true))))
set_option maxHeartbeats 2000000 in
set_option maxRecDepth 20000 in
theorem m_ident_Valid_ok (N : Nat) (w0 : World) (p0 : ByteArray)   (r : Bool) (hr : m_ident_Valid N p0 = some r) :
    Calls Try.prog 67 [.string p0].toArray w0 fun x w1 => ∃ u, x = .returned ((fun (r : Bool) (_u : Unit) => .bool r) r u) ∧ Hs w0 ((fun (_r : Bool) (_u : Unit) => []) r u) w1 := by
  refine calls_cm (n := 51) (R := fun r x w1 => ∃ u, x = .returned ((fun (r : Bool) (_u : Unit) => .bool r) r u) ∧ Hs w0 ((fun (_r : Bool) (_u : Unit) => []) r u) w1) Try.func67 rfl rfl (Nat.le_of_ble_eq_true rfl) ?_ r hr
  unfold m_ident_Valid
  refine cm_seq ?_
  refine cm_region ?_
  refine lm_val 2 (by kernel_rfl) (fun w1 c1 => (op_assign (v := .bool false) rfl)) ?_
  refine lm_nil ?_
  refine xm_next ?_
  refine cm_seq ?_
  refine cm_seq ?_
  refine cm_ck (fun h5 => ?_)
  refine cm_callIf fun r6 h7 => ?_
  refine cm_cutE [(18, .bool (((decide ((ByteArray.size p0 : Int) < 1)) || (decide (32 < (ByteArray.size p0 : Int)))) || (!r6)))] ?_ ?_
  · skip
    refine wq_val 5 (by kernel_rfl) (fun w1 c1 => (op_move (v := .string _) rfl)) ?_
    refine wq_val 6 (by kernel_rfl) (fun w1 c1 => (op_lenS rfl (by kernel_rfl))) ?_
    refine wq_dec 7 (by kernel_rfl) (fun w1 c1 => (op_lss rfl rfl)) (fun h8 => ?_) (fun h8 => ?_)
    · skip
      refine wq_val 8 (by kernel_rfl) (fun w1 c1 => (op_move (v := .bool true) rfl)) ?_
      refine wq_skip 9 (by kernel_rfl) ?_
      refine wq_skip 10 (by kernel_rfl) ?_
      refine wq_skip 11 (by kernel_rfl) ?_
      refine wq_val 12 (by kernel_rfl) (fun w1 c1 => (op_pick_t (v := .bool true) rfl rfl)) ?_
      refine wq_val 13 (by kernel_rfl) (fun w1 c1 => (op_move (v := .bool true) rfl)) ?_
      refine wq_skip 14 (by kernel_rfl) ?_
      refine wq_skip 15 (by kernel_rfl) ?_
      refine wq_skip 16 (by kernel_rfl) ?_
      refine wq_skip 17 (by kernel_rfl) ?_
      refine wq_val 18 (by kernel_rfl) (fun w1 c1 => (op_pick_t (v := .bool true) rfl rfl)) ?_
      exact leaf_q (sub_out 14 _ rfl (by kernel_rfl) ⟨(congrArg Value.bool (by rw [decide_eq_true h8] <;> rfl)), trivial⟩)
    · skip
      refine wq_val 8 (by kernel_rfl) (fun w1 c1 => (op_move (v := .bool false) rfl)) ?_
      refine wq_val 9 (by kernel_rfl) (fun w1 c1 => (op_move (v := .string _) rfl)) ?_
      refine wq_val 10 (by kernel_rfl) (fun w1 c1 => (op_lenS rfl (by kernel_rfl))) ?_
      refine wq_dec 11 (by kernel_rfl) (fun w1 c1 => (op_gtr rfl rfl)) (fun h9 => ?_) (fun h9 => ?_)
      · skip
        refine wq_val 12 (by kernel_rfl) (fun w1 c1 => (op_pick_f (v := .bool true) rfl rfl)) ?_
        refine wq_val 13 (by kernel_rfl) (fun w1 c1 => (op_move (v := .bool true) rfl)) ?_
        refine wq_skip 14 (by kernel_rfl) ?_
        refine wq_skip 15 (by kernel_rfl) ?_
        refine wq_skip 16 (by kernel_rfl) ?_
        refine wq_skip 17 (by kernel_rfl) ?_
        refine wq_val 18 (by kernel_rfl) (fun w1 c1 => (op_pick_t (v := .bool true) rfl rfl)) ?_
        exact leaf_q (sub_out 14 _ rfl (by kernel_rfl) ⟨(congrArg Value.bool (by rw [decide_eq_false h8, decide_eq_true h9] <;> rfl)), trivial⟩)
      · skip
        refine wq_val 12 (by kernel_rfl) (fun w1 c1 => (op_pick_f (v := .bool false) rfl rfl)) ?_
        refine wq_val 13 (by kernel_rfl) (fun w1 c1 => (op_move (v := .bool false) rfl)) ?_
        refine wq_val 14 (by kernel_rfl) (fun w1 c1 => (op_move (v := .string _) rfl)) ?_
        refine wq_val 15 (by kernel_rfl) (fun w1 c1 => (op_indexS rfl rfl (by kernel_rfl) (h5 (by rw [decide_eq_false h8, decide_eq_false h9] <;> rfl)).1 (h5 (by rw [decide_eq_false h8, decide_eq_false h9] <;> rfl)).2)) ?_
        refine wq_call 16 (by kernel_rfl) (fun w1 c1 => op_call (by kernel_rfl)) (fun w1 c1 => (m_ident_letter_ok N w1 (bget p0 (0 : Int))  r6 (h7 (by rw [decide_eq_false h8, decide_eq_false h9] <;> rfl))).mono (fun _ _ ⟨_, hx, hu⟩ => ⟨hx, c1.call hu⟩)) ?_
        refine wq_val 17 (by kernel_rfl) (fun w1 c1 => (op_not rfl)) ?_
        refine wq_val 18 (by kernel_rfl) (fun w1 c1 => (op_pick_f (v := .bool _) rfl rfl)) ?_
        exact leaf_q (sub_out 14 _ rfl (by kernel_rfl) ⟨(congrArg Value.bool (by rw [decide_eq_false h8, decide_eq_false h9] <;> rfl)), trivial⟩)
  refine xm_next ?_
  refine cm_condB (by kernel_rfl) rfl (fun h10 => ?_) (fun h10 => ?_)
  · skip
    refine cm_seq ?_
    refine cm_region ?_
    refine lm_val 2 (by kernel_rfl) (fun w1 c1 => (op_assign (v := .bool false) rfl)) ?_
    refine lm_nil ?_
    refine xm_next ?_
    refine cm_ret ?_
    refine xm_thenR ?_
    exact xm_retT rfl (by kernel_rfl) (show _ = Value.bool false from rfl) fun w1 c1 => ⟨(), rfl, hsub [] (by kernel_rfl) rfl w1 c1⟩
  · skip
    refine cm_skip ?_
    refine xm_next ?_
    refine cm_join (σ := Unit) (ξ := Unit) (fun s56 u57 => []) (fun s56 u57 => []) ?_ ?_
    · skip
      refine cm_seq ?_
      refine cm_region ?_
      refine lm_val 3 (by kernel_rfl) (fun w1 c1 => (op_assign (v := .int .i64 _) rfl)) ?_
      refine lm_nil ?_
      refine xm_next ?_
      refine cm_block ?_
      refine cm_loop (σ := Int) (ξ := Unit) (fun s88 u89 => [(0, .string p0), (3, .int .i64 s88)]) (fun s88 u89 => []) () ?_ ?_ ?_
      · exact (sub_cons (by kernel_rfl) rfl (sub_cons (by kernel_rfl) rfl sub_nil))
      · exact hsub [] (by kernel_rfl) rfl
      intro s88 u89
      refine cm_seq ?_
      refine cm_seq ?_
      refine cm_region ?_
      refine lm_val 19 (by kernel_rfl) (fun w1 c1 => (op_move (v := .int .i64 _) rfl)) ?_
      refine lm_val 20 (by kernel_rfl) (fun w1 c1 => (op_move (v := .string _) rfl)) ?_
      refine lm_val 21 (by kernel_rfl) (fun w1 c1 => (op_lenS rfl (by kernel_rfl))) ?_
      refine lm_val 22 (by kernel_rfl) (fun w1 c1 => (op_lss rfl rfl)) ?_
      refine lm_nil ?_
      refine xm_next ?_
      refine cm_cond (by kernel_rfl) rfl (fun h90 => ?_) (fun h90 => ?_)
      · skip
        refine cm_skip ?_
        refine xm_next ?_
        refine cm_seq ?_
        refine cm_block ?_
        refine cm_seq ?_
        refine cm_region ?_
        refine lm_val 25 (by kernel_rfl) (fun w1 c1 => (op_move (v := .string _) rfl)) ?_
        refine lm_val 26 (by kernel_rfl) (fun w1 c1 => (op_move (v := .int .i64 _) rfl)) ?_
        refine lm_ck (fun h91 => ?_)
        refine lm_val 27 (by kernel_rfl) (fun w1 c1 => (op_indexS rfl rfl (by kernel_rfl) h91.1 h91.2)) ?_
        refine lm_val 4 (by kernel_rfl) (fun w1 c1 => (op_assign (v := .int .u8 _) rfl)) ?_
        refine lm_nil ?_
        refine xm_next ?_
        refine cm_seq ?_
        refine cm_bind fun r92 h93 => ?_
        refine cm_cutE [(50, .bool (((((!r92) && ((decide ((bget p0 s88) < 48)) || (decide (57 < (bget p0 s88))))) && (decide ((bget p0 s88) ≠ 45))) && (decide ((bget p0 s88) ≠ 95))) && (decide ((bget p0 s88) ≠ 46))))] ?_ ?_
        · skip
          refine wq_val 28 (by kernel_rfl) (fun w1 c1 => (op_move (v := .int .u8 _) rfl)) ?_
          refine wq_callb 29 (by kernel_rfl) (fun w1 c1 => op_call (by kernel_rfl)) (fun w1 c1 => (m_ident_letter_ok N w1 (bget p0 s88)  r92 h93).mono (fun _ _ ⟨_, hx, hu⟩ => ⟨hx, c1.call hu⟩)) (fun h94 => ?_) (fun h94 => ?_)
          · skip
            refine wq_val 30 (by kernel_rfl) (fun w1 c1 => (op_nott rfl)) ?_
            refine wq_val 31 (by kernel_rfl) (fun w1 c1 => (op_move (v := .bool false) rfl)) ?_
            refine wq_skip 32 (by kernel_rfl) ?_
            refine wq_skip 33 (by kernel_rfl) ?_
            refine wq_skip 34 (by kernel_rfl) ?_
            refine wq_skip 35 (by kernel_rfl) ?_
            refine wq_skip 36 (by kernel_rfl) ?_
            refine wq_skip 37 (by kernel_rfl) ?_
            refine wq_val 38 (by kernel_rfl) (fun w1 c1 => (op_pick_f (v := .bool false) rfl rfl)) ?_
            refine wq_val 39 (by kernel_rfl) (fun w1 c1 => (op_move (v := .bool false) rfl)) ?_
            refine wq_skip 40 (by kernel_rfl) ?_
            refine wq_skip 41 (by kernel_rfl) ?_
            refine wq_val 42 (by kernel_rfl) (fun w1 c1 => (op_pick_f (v := .bool false) rfl rfl)) ?_
            refine wq_val 43 (by kernel_rfl) (fun w1 c1 => (op_move (v := .bool false) rfl)) ?_
            refine wq_skip 44 (by kernel_rfl) ?_
            refine wq_skip 45 (by kernel_rfl) ?_
            refine wq_val 46 (by kernel_rfl) (fun w1 c1 => (op_pick_f (v := .bool false) rfl rfl)) ?_
            refine wq_val 47 (by kernel_rfl) (fun w1 c1 => (op_move (v := .bool false) rfl)) ?_
            refine wq_skip 48 (by kernel_rfl) ?_
            refine wq_skip 49 (by kernel_rfl) ?_
            refine wq_val 50 (by kernel_rfl) (fun w1 c1 => (op_pick_f (v := .bool false) rfl rfl)) ?_
            exact leaf_q (sub_out 23 _ rfl (by kernel_rfl) ⟨(congrArg Value.bool (by rw [h94] <;> rfl)), trivial⟩)
          · skip
            refine wq_val 30 (by kernel_rfl) (fun w1 c1 => (op_notf rfl)) ?_
            refine wq_val 31 (by kernel_rfl) (fun w1 c1 => (op_move (v := .bool true) rfl)) ?_
            refine wq_val 32 (by kernel_rfl) (fun w1 c1 => (op_move (v := .int .u8 _) rfl)) ?_
            refine wq_dec 33 (by kernel_rfl) (fun w1 c1 => (op_lssK rfl rfl)) (fun h95 => ?_) (fun h95 => ?_)
            · skip
              refine wq_val 34 (by kernel_rfl) (fun w1 c1 => (op_move (v := .bool true) rfl)) ?_
              refine wq_skip 35 (by kernel_rfl) ?_
              refine wq_skip 36 (by kernel_rfl) ?_
              refine wq_val 37 (by kernel_rfl) (fun w1 c1 => (op_pick_t (v := .bool true) rfl rfl)) ?_
              refine wq_val 38 (by kernel_rfl) (fun w1 c1 => (op_pick_t (v := .bool true) rfl rfl)) ?_
              refine wq_val 39 (by kernel_rfl) (fun w1 c1 => (op_move (v := .bool true) rfl)) ?_
              refine wq_val 40 (by kernel_rfl) (fun w1 c1 => (op_move (v := .int .u8 _) rfl)) ?_
              refine wq_dec 41 (by kernel_rfl) (fun w1 c1 => (op_neqK rfl rfl)) (fun h96 => ?_) (fun h96 => ?_)
              · skip
                refine wq_val 42 (by kernel_rfl) (fun w1 c1 => (op_pick_t (v := .bool true) rfl rfl)) ?_
                refine wq_val 43 (by kernel_rfl) (fun w1 c1 => (op_move (v := .bool true) rfl)) ?_
                refine wq_val 44 (by kernel_rfl) (fun w1 c1 => (op_move (v := .int .u8 _) rfl)) ?_
                refine wq_dec 45 (by kernel_rfl) (fun w1 c1 => (op_neqK rfl rfl)) (fun h97 => ?_) (fun h97 => ?_)
                · skip
                  refine wq_val 46 (by kernel_rfl) (fun w1 c1 => (op_pick_t (v := .bool true) rfl rfl)) ?_
                  refine wq_val 47 (by kernel_rfl) (fun w1 c1 => (op_move (v := .bool true) rfl)) ?_
                  refine wq_val 48 (by kernel_rfl) (fun w1 c1 => (op_move (v := .int .u8 _) rfl)) ?_
                  refine wq_val 49 (by kernel_rfl) (fun w1 c1 => (op_neqK rfl rfl)) ?_
                  refine wq_val 50 (by kernel_rfl) (fun w1 c1 => (op_pick_t (v := .bool _) rfl rfl)) ?_
                  exact leaf_q (sub_out 23 _ rfl (by kernel_rfl) ⟨(congrArg Value.bool (by rw [h94, decide_eq_true h95, decide_eq_true h96, decide_eq_true h97] <;> rfl)), trivial⟩)
                · skip
                  refine wq_val 46 (by kernel_rfl) (fun w1 c1 => (op_pick_t (v := .bool false) rfl rfl)) ?_
                  refine wq_val 47 (by kernel_rfl) (fun w1 c1 => (op_move (v := .bool false) rfl)) ?_
                  refine wq_skip 48 (by kernel_rfl) ?_
                  refine wq_skip 49 (by kernel_rfl) ?_
                  refine wq_val 50 (by kernel_rfl) (fun w1 c1 => (op_pick_f (v := .bool false) rfl rfl)) ?_
                  exact leaf_q (sub_out 23 _ rfl (by kernel_rfl) ⟨(congrArg Value.bool (by rw [h94, decide_eq_true h95, decide_eq_true h96, decide_eq_false h97] <;> rfl)), trivial⟩)
              · skip
                refine wq_val 42 (by kernel_rfl) (fun w1 c1 => (op_pick_t (v := .bool false) rfl rfl)) ?_
                refine wq_val 43 (by kernel_rfl) (fun w1 c1 => (op_move (v := .bool false) rfl)) ?_
                refine wq_skip 44 (by kernel_rfl) ?_
                refine wq_skip 45 (by kernel_rfl) ?_
                refine wq_val 46 (by kernel_rfl) (fun w1 c1 => (op_pick_f (v := .bool false) rfl rfl)) ?_
                refine wq_val 47 (by kernel_rfl) (fun w1 c1 => (op_move (v := .bool false) rfl)) ?_
                refine wq_skip 48 (by kernel_rfl) ?_
                refine wq_skip 49 (by kernel_rfl) ?_
                refine wq_val 50 (by kernel_rfl) (fun w1 c1 => (op_pick_f (v := .bool false) rfl rfl)) ?_
                exact leaf_q (sub_out 23 _ rfl (by kernel_rfl) ⟨(congrArg Value.bool (by rw [h94, decide_eq_true h95, decide_eq_false h96] <;> rfl)), trivial⟩)
            · skip
              refine wq_val 34 (by kernel_rfl) (fun w1 c1 => (op_move (v := .bool false) rfl)) ?_
              refine wq_val 35 (by kernel_rfl) (fun w1 c1 => (op_move (v := .int .u8 _) rfl)) ?_
              refine wq_dec 36 (by kernel_rfl) (fun w1 c1 => (op_gtrK rfl rfl)) (fun h98 => ?_) (fun h98 => ?_)
              · skip
                refine wq_val 37 (by kernel_rfl) (fun w1 c1 => (op_pick_f (v := .bool true) rfl rfl)) ?_
                refine wq_val 38 (by kernel_rfl) (fun w1 c1 => (op_pick_t (v := .bool true) rfl rfl)) ?_
                refine wq_val 39 (by kernel_rfl) (fun w1 c1 => (op_move (v := .bool true) rfl)) ?_
                refine wq_val 40 (by kernel_rfl) (fun w1 c1 => (op_move (v := .int .u8 _) rfl)) ?_
                refine wq_dec 41 (by kernel_rfl) (fun w1 c1 => (op_neqK rfl rfl)) (fun h99 => ?_) (fun h99 => ?_)
                · skip
                  refine wq_val 42 (by kernel_rfl) (fun w1 c1 => (op_pick_t (v := .bool true) rfl rfl)) ?_
                  refine wq_val 43 (by kernel_rfl) (fun w1 c1 => (op_move (v := .bool true) rfl)) ?_
                  refine wq_val 44 (by kernel_rfl) (fun w1 c1 => (op_move (v := .int .u8 _) rfl)) ?_
                  refine wq_dec 45 (by kernel_rfl) (fun w1 c1 => (op_neqK rfl rfl)) (fun h100 => ?_) (fun h100 => ?_)
                  · skip
                    refine wq_val 46 (by kernel_rfl) (fun w1 c1 => (op_pick_t (v := .bool true) rfl rfl)) ?_
                    refine wq_val 47 (by kernel_rfl) (fun w1 c1 => (op_move (v := .bool true) rfl)) ?_
                    refine wq_val 48 (by kernel_rfl) (fun w1 c1 => (op_move (v := .int .u8 _) rfl)) ?_
                    refine wq_val 49 (by kernel_rfl) (fun w1 c1 => (op_neqK rfl rfl)) ?_
                    refine wq_val 50 (by kernel_rfl) (fun w1 c1 => (op_pick_t (v := .bool _) rfl rfl)) ?_
                    exact leaf_q (sub_out 23 _ rfl (by kernel_rfl) ⟨(congrArg Value.bool (by rw [h94, decide_eq_false h95, decide_eq_true h98, decide_eq_true h99, decide_eq_true h100] <;> rfl)), trivial⟩)
                  · skip
                    refine wq_val 46 (by kernel_rfl) (fun w1 c1 => (op_pick_t (v := .bool false) rfl rfl)) ?_
                    refine wq_val 47 (by kernel_rfl) (fun w1 c1 => (op_move (v := .bool false) rfl)) ?_
                    refine wq_skip 48 (by kernel_rfl) ?_
                    refine wq_skip 49 (by kernel_rfl) ?_
                    refine wq_val 50 (by kernel_rfl) (fun w1 c1 => (op_pick_f (v := .bool false) rfl rfl)) ?_
                    exact leaf_q (sub_out 23 _ rfl (by kernel_rfl) ⟨(congrArg Value.bool (by rw [h94, decide_eq_false h95, decide_eq_true h98, decide_eq_true h99, decide_eq_false h100] <;> rfl)), trivial⟩)
                · skip
                  refine wq_val 42 (by kernel_rfl) (fun w1 c1 => (op_pick_t (v := .bool false) rfl rfl)) ?_
                  refine wq_val 43 (by kernel_rfl) (fun w1 c1 => (op_move (v := .bool false) rfl)) ?_
                  refine wq_skip 44 (by kernel_rfl) ?_
                  refine wq_skip 45 (by kernel_rfl) ?_
                  refine wq_val 46 (by kernel_rfl) (fun w1 c1 => (op_pick_f (v := .bool false) rfl rfl)) ?_
                  refine wq_val 47 (by kernel_rfl) (fun w1 c1 => (op_move (v := .bool false) rfl)) ?_
                  refine wq_skip 48 (by kernel_rfl) ?_
                  refine wq_skip 49 (by kernel_rfl) ?_
                  refine wq_val 50 (by kernel_rfl) (fun w1 c1 => (op_pick_f (v := .bool false) rfl rfl)) ?_
                  exact leaf_q (sub_out 23 _ rfl (by kernel_rfl) ⟨(congrArg Value.bool (by rw [h94, decide_eq_false h95, decide_eq_true h98, decide_eq_false h99] <;> rfl)), trivial⟩)
              · skip
                refine wq_val 37 (by kernel_rfl) (fun w1 c1 => (op_pick_f (v := .bool false) rfl rfl)) ?_
                refine wq_val 38 (by kernel_rfl) (fun w1 c1 => (op_pick_t (v := .bool false) rfl rfl)) ?_
                refine wq_val 39 (by kernel_rfl) (fun w1 c1 => (op_move (v := .bool false) rfl)) ?_
                refine wq_skip 40 (by kernel_rfl) ?_
                refine wq_skip 41 (by kernel_rfl) ?_
                refine wq_val 42 (by kernel_rfl) (fun w1 c1 => (op_pick_f (v := .bool false) rfl rfl)) ?_
                refine wq_val 43 (by kernel_rfl) (fun w1 c1 => (op_move (v := .bool false) rfl)) ?_
                refine wq_skip 44 (by kernel_rfl) ?_
                refine wq_skip 45 (by kernel_rfl) ?_
                refine wq_val 46 (by kernel_rfl) (fun w1 c1 => (op_pick_f (v := .bool false) rfl rfl)) ?_
                refine wq_val 47 (by kernel_rfl) (fun w1 c1 => (op_move (v := .bool false) rfl)) ?_
                refine wq_skip 48 (by kernel_rfl) ?_
                refine wq_skip 49 (by kernel_rfl) ?_
                refine wq_val 50 (by kernel_rfl) (fun w1 c1 => (op_pick_f (v := .bool false) rfl rfl)) ?_
                exact leaf_q (sub_out 23 _ rfl (by kernel_rfl) ⟨(congrArg Value.bool (by rw [h94, decide_eq_false h95, decide_eq_false h98] <;> rfl)), trivial⟩)
        refine xm_next ?_
        refine cm_condB (by kernel_rfl) rfl (fun h101 => ?_) (fun h101 => ?_)
        · skip
          refine cm_seq ?_
          refine cm_region ?_
          refine lm_val 2 (by kernel_rfl) (fun w1 c1 => (op_assign (v := .bool false) rfl)) ?_
          refine lm_nil ?_
          refine xm_next ?_
          refine cm_ret ?_
          refine xm_inR ?_
          refine xm_thenR ?_
          refine xm_lret ?_
          refine xm_inR ?_
          refine xm_lret ?_
          exact xm_retT rfl (by kernel_rfl) (show _ = Value.bool false from rfl) fun w1 c1 => ⟨(), rfl, hsub [] (by kernel_rfl) rfl w1 c1⟩
        · skip
          refine cm_skip ?_
          refine xm_inN ?_
          refine xm_next ?_
          refine cm_region ?_
          refine lm_val 23 (by kernel_rfl) (fun w1 c1 => (op_move (v := .int .i64 _) rfl)) ?_
          refine lm_ck (fun h102 => ?_)
          refine lm_val 24 (by kernel_rfl) (fun w1 c1 => (op_add rfl rfl h102)) ?_
          refine lm_val 3 (by kernel_rfl) (fun w1 c1 => (op_assign (v := .int .i64 _) rfl)) ?_
          refine lm_nil ?_
          exact xm_lnext () (sub_cons (by kernel_rfl) rfl (sub_cons (by kernel_rfl) rfl sub_nil)) (hsub [] (by kernel_rfl) rfl)
      · skip
        refine cm_exit ?_
        refine xm_thenE ?_
        refine xm_lexit ?_
        refine xm_here ?_
        exact xm_lnext () sub_nil (hsub [] (by kernel_rfl) rfl)
    intro s56 u57
    refine cm_seq ?_
    refine cm_region ?_
    refine lm_val 2 (by kernel_rfl) (fun w1 c1 => (op_assign (v := .bool true) rfl)) ?_
    refine lm_nil ?_
    refine xm_next ?_
    refine cm_ret ?_
    exact xm_retT rfl (by kernel_rfl) (show _ = Value.bool true from rfl) fun w1 c1 => ⟨(), rfl, hsub [] (by kernel_rfl) rfl w1 c1⟩
/-- container.check -/
def m_container_check (N : Nat) (p0 : ApiContainer) (p1 : Int) (p2 : Int) : Option (Int) :=
  Option.bind (m_ident_Valid N p0.ID) fun r6 => (if (!r6) = true then
    some ((5 : Int))
  else
    (if ((decide (p0.Kind < 0)) || (decide (p1 ≤ p0.Kind))) = true then
      some ((21 : Int))
    else
      (if ((((decide (p0.Litres < 1)) || (decide (40000 < p0.Litres))) || (decide (p0.Grams < 1))) || (decide (1073741824 < p0.Grams))) = true then
        some ((1 : Int))
      else
        (if ((decide (p0.Node < 0)) || (decide (p2 ≤ p0.Node))) = true then
          some ((7 : Int))
        else
          some ((0 : Int))))))
set_option maxHeartbeats 2000000 in
set_option maxRecDepth 20000 in
theorem m_container_check_ok (N : Nat) (w0 : World) (p0 : ApiContainer) (p1 : Int) (p2 : Int)   (r : Int) (hr : m_container_check N p0 p1 p2 = some r) :
    Calls Try.prog 55 [.agg #[.string p0.ID, .int .i64 p0.Kind, .int .i64 p0.Litres, .int .i64 p0.Grams, .int .i64 p0.Node], .int .i64 p1, .int .i64 p2].toArray w0 fun x w1 => ∃ u, x = .returned ((fun (r : Int) (_u : Unit) => .int .i64 r) r u) ∧ Hs w0 ((fun (_r : Int) (_u : Unit) => []) r u) w1 := by
  refine calls_cm (n := 51) (R := fun r x w1 => ∃ u, x = .returned ((fun (r : Int) (_u : Unit) => .int .i64 r) r u) ∧ Hs w0 ((fun (_r : Int) (_u : Unit) => []) r u) w1) Try.func55 rfl rfl (Nat.le_of_ble_eq_true rfl) ?_ r hr
  unfold m_container_check
  refine cm_seq ?_
  refine cm_region ?_
  refine lm_box 3 [.string _, .int .i64 _, .int .i64 _, .int .i64 _, .int .i64 _] (by kernel_rfl) rfl ?_
  intro b5
  refine lm_val 6 (by kernel_rfl) (fun w1 c1 => (op_assign (v := .int .i64 _) rfl)) ?_
  refine lm_nil ?_
  refine xm_next ?_
  refine cm_seq ?_
  refine cm_block ?_
  refine cm_seq ?_
  refine cm_region ?_
  refine lm_val 8 (by kernel_rfl) (fun w1 c1 => (op_fieldL (m := 0) (k := 0) rfl (by kernel_rfl) rfl)) ?_
  refine lm_val 9 (by kernel_rfl) (fun w1 c1 => (op_load rfl (by kernel_rfl) (c1.cell 0 (u := .string _) rfl rfl))) ?_
  refine lm_call 10 (V := (fun (r : Bool) (_u : Unit) => .bool r)) (HR := (fun (_r : Bool) (_u : Unit) => [])) (by kernel_rfl) (fun w1 => op_call (by kernel_rfl)) (fun r1 hr1 w1 c1 => m_ident_Valid_ok N w1 p0.ID  r1 hr1) ?_
  intro r6 u7
  refine lm_val 11 (by kernel_rfl) (fun w1 c1 => (op_not rfl)) ?_
  refine lm_val 7 (by kernel_rfl) (fun w1 c1 => (op_assign (v := .bool _) rfl)) ?_
  refine lm_nil ?_
  refine xm_next ?_
  refine cm_condB (by kernel_rfl) rfl (fun h8 => ?_) (fun h8 => ?_)
  · skip
    refine cm_seq ?_
    refine cm_region ?_
    refine lm_val 6 (by kernel_rfl) (fun w1 c1 => (op_assign (v := .int .i64 _) rfl)) ?_
    refine lm_nil ?_
    refine xm_next ?_
    refine cm_ret ?_
    refine xm_inR ?_
    refine xm_thenR ?_
    exact xm_retT rfl (by kernel_rfl) (show _ = Value.int .i64 _ from rfl) fun w1 c1 => ⟨(), rfl, hsub [] (by kernel_rfl) rfl w1 c1⟩
  · skip
    refine cm_seq ?_
    refine cm_cutE [(12, .bool ((decide (p0.Kind < 0)) || (decide (p1 ≤ p0.Kind))))] ?_ ?_
    · skip
      refine wq_val 13 (by kernel_rfl) (fun w1 c1 => (op_fieldL (m := 1) (k := 1) rfl (by kernel_rfl) rfl)) ?_
      refine wq_val 14 (by kernel_rfl) (fun w1 c1 => (op_load rfl (by kernel_rfl) (c1.cell 0 (u := .int .i64 _) rfl rfl))) ?_
      refine wq_dec 15 (by kernel_rfl) (fun w1 c1 => (op_lss rfl rfl)) (fun h9 => ?_) (fun h9 => ?_)
      · skip
        refine wq_val 16 (by kernel_rfl) (fun w1 c1 => (op_move (v := .bool true) rfl)) ?_
        refine wq_skip 17 (by kernel_rfl) ?_
        refine wq_skip 18 (by kernel_rfl) ?_
        refine wq_skip 19 (by kernel_rfl) ?_
        refine wq_skip 20 (by kernel_rfl) ?_
        refine wq_val 21 (by kernel_rfl) (fun w1 c1 => (op_pick_t (v := .bool true) rfl rfl)) ?_
        refine wq_val 12 (by kernel_rfl) (fun w1 c1 => (op_assign (v := .bool true) rfl)) ?_
        exact leaf_q (sub_out 10 _ rfl (by kernel_rfl) ⟨(congrArg Value.bool (by rw [decide_eq_true h9] <;> rfl)), trivial⟩)
      · skip
        refine wq_val 16 (by kernel_rfl) (fun w1 c1 => (op_move (v := .bool false) rfl)) ?_
        refine wq_val 17 (by kernel_rfl) (fun w1 c1 => (op_fieldL (m := 1) (k := 1) rfl (by kernel_rfl) rfl)) ?_
        refine wq_val 18 (by kernel_rfl) (fun w1 c1 => (op_load rfl (by kernel_rfl) (c1.cell 0 (u := .int .i64 _) rfl rfl))) ?_
        refine wq_val 19 (by kernel_rfl) (fun w1 c1 => (op_move (v := .int .i64 _) rfl)) ?_
        refine wq_val 20 (by kernel_rfl) (fun w1 c1 => (op_geq rfl rfl)) ?_
        refine wq_val 21 (by kernel_rfl) (fun w1 c1 => (op_pick_f (v := .bool _) rfl rfl)) ?_
        refine wq_val 12 (by kernel_rfl) (fun w1 c1 => (op_assign (v := .bool _) rfl)) ?_
        exact leaf_q (sub_out 10 _ rfl (by kernel_rfl) ⟨(congrArg Value.bool (by rw [decide_eq_false h9] <;> rfl)), trivial⟩)
    refine xm_next ?_
    refine cm_condB (by kernel_rfl) rfl (fun h10 => ?_) (fun h10 => ?_)
    · skip
      refine cm_seq ?_
      refine cm_region ?_
      refine lm_val 6 (by kernel_rfl) (fun w1 c1 => (op_assign (v := .int .i64 _) rfl)) ?_
      refine lm_nil ?_
      refine xm_next ?_
      refine cm_ret ?_
      refine xm_inR ?_
      refine xm_thenR ?_
      exact xm_retT rfl (by kernel_rfl) (show _ = Value.int .i64 _ from rfl) fun w1 c1 => ⟨(), rfl, hsub [] (by kernel_rfl) rfl w1 c1⟩
    · skip
      refine cm_seq ?_
      refine cm_cutE [(22, .bool ((((decide (p0.Litres < 1)) || (decide (40000 < p0.Litres))) || (decide (p0.Grams < 1))) || (decide (1073741824 < p0.Grams))))] ?_ ?_
      · skip
        refine wq_val 23 (by kernel_rfl) (fun w1 c1 => (op_fieldL (m := 2) (k := 2) rfl (by kernel_rfl) rfl)) ?_
        refine wq_val 24 (by kernel_rfl) (fun w1 c1 => (op_load rfl (by kernel_rfl) (c1.cell 0 (u := .int .i64 _) rfl rfl))) ?_
        refine wq_dec 25 (by kernel_rfl) (fun w1 c1 => (op_lss rfl rfl)) (fun h11 => ?_) (fun h11 => ?_)
        · skip
          refine wq_val 26 (by kernel_rfl) (fun w1 c1 => (op_move (v := .bool true) rfl)) ?_
          refine wq_skip 27 (by kernel_rfl) ?_
          refine wq_skip 28 (by kernel_rfl) ?_
          refine wq_skip 29 (by kernel_rfl) ?_
          refine wq_val 30 (by kernel_rfl) (fun w1 c1 => (op_pick_t (v := .bool true) rfl rfl)) ?_
          refine wq_val 31 (by kernel_rfl) (fun w1 c1 => (op_move (v := .bool true) rfl)) ?_
          refine wq_skip 32 (by kernel_rfl) ?_
          refine wq_skip 33 (by kernel_rfl) ?_
          refine wq_skip 34 (by kernel_rfl) ?_
          refine wq_val 35 (by kernel_rfl) (fun w1 c1 => (op_pick_t (v := .bool true) rfl rfl)) ?_
          refine wq_val 36 (by kernel_rfl) (fun w1 c1 => (op_move (v := .bool true) rfl)) ?_
          refine wq_skip 37 (by kernel_rfl) ?_
          refine wq_skip 38 (by kernel_rfl) ?_
          refine wq_skip 39 (by kernel_rfl) ?_
          refine wq_val 40 (by kernel_rfl) (fun w1 c1 => (op_pick_t (v := .bool true) rfl rfl)) ?_
          refine wq_val 22 (by kernel_rfl) (fun w1 c1 => (op_assign (v := .bool true) rfl)) ?_
          exact leaf_q (sub_out 19 _ rfl (by kernel_rfl) ⟨(congrArg Value.bool (by rw [decide_eq_true h11] <;> rfl)), trivial⟩)
        · skip
          refine wq_val 26 (by kernel_rfl) (fun w1 c1 => (op_move (v := .bool false) rfl)) ?_
          refine wq_val 27 (by kernel_rfl) (fun w1 c1 => (op_fieldL (m := 2) (k := 2) rfl (by kernel_rfl) rfl)) ?_
          refine wq_val 28 (by kernel_rfl) (fun w1 c1 => (op_load rfl (by kernel_rfl) (c1.cell 0 (u := .int .i64 _) rfl rfl))) ?_
          refine wq_dec 29 (by kernel_rfl) (fun w1 c1 => (op_gtr rfl rfl)) (fun h12 => ?_) (fun h12 => ?_)
          · skip
            refine wq_val 30 (by kernel_rfl) (fun w1 c1 => (op_pick_f (v := .bool true) rfl rfl)) ?_
            refine wq_val 31 (by kernel_rfl) (fun w1 c1 => (op_move (v := .bool true) rfl)) ?_
            refine wq_skip 32 (by kernel_rfl) ?_
            refine wq_skip 33 (by kernel_rfl) ?_
            refine wq_skip 34 (by kernel_rfl) ?_
            refine wq_val 35 (by kernel_rfl) (fun w1 c1 => (op_pick_t (v := .bool true) rfl rfl)) ?_
            refine wq_val 36 (by kernel_rfl) (fun w1 c1 => (op_move (v := .bool true) rfl)) ?_
            refine wq_skip 37 (by kernel_rfl) ?_
            refine wq_skip 38 (by kernel_rfl) ?_
            refine wq_skip 39 (by kernel_rfl) ?_
            refine wq_val 40 (by kernel_rfl) (fun w1 c1 => (op_pick_t (v := .bool true) rfl rfl)) ?_
            refine wq_val 22 (by kernel_rfl) (fun w1 c1 => (op_assign (v := .bool true) rfl)) ?_
            exact leaf_q (sub_out 19 _ rfl (by kernel_rfl) ⟨(congrArg Value.bool (by rw [decide_eq_false h11, decide_eq_true h12] <;> rfl)), trivial⟩)
          · skip
            refine wq_val 30 (by kernel_rfl) (fun w1 c1 => (op_pick_f (v := .bool false) rfl rfl)) ?_
            refine wq_val 31 (by kernel_rfl) (fun w1 c1 => (op_move (v := .bool false) rfl)) ?_
            refine wq_val 32 (by kernel_rfl) (fun w1 c1 => (op_fieldL (m := 3) (k := 3) rfl (by kernel_rfl) rfl)) ?_
            refine wq_val 33 (by kernel_rfl) (fun w1 c1 => (op_load rfl (by kernel_rfl) (c1.cell 0 (u := .int .i64 _) rfl rfl))) ?_
            refine wq_dec 34 (by kernel_rfl) (fun w1 c1 => (op_lss rfl rfl)) (fun h13 => ?_) (fun h13 => ?_)
            · skip
              refine wq_val 35 (by kernel_rfl) (fun w1 c1 => (op_pick_f (v := .bool true) rfl rfl)) ?_
              refine wq_val 36 (by kernel_rfl) (fun w1 c1 => (op_move (v := .bool true) rfl)) ?_
              refine wq_skip 37 (by kernel_rfl) ?_
              refine wq_skip 38 (by kernel_rfl) ?_
              refine wq_skip 39 (by kernel_rfl) ?_
              refine wq_val 40 (by kernel_rfl) (fun w1 c1 => (op_pick_t (v := .bool true) rfl rfl)) ?_
              refine wq_val 22 (by kernel_rfl) (fun w1 c1 => (op_assign (v := .bool true) rfl)) ?_
              exact leaf_q (sub_out 19 _ rfl (by kernel_rfl) ⟨(congrArg Value.bool (by rw [decide_eq_false h11, decide_eq_false h12, decide_eq_true h13] <;> rfl)), trivial⟩)
            · skip
              refine wq_val 35 (by kernel_rfl) (fun w1 c1 => (op_pick_f (v := .bool false) rfl rfl)) ?_
              refine wq_val 36 (by kernel_rfl) (fun w1 c1 => (op_move (v := .bool false) rfl)) ?_
              refine wq_val 37 (by kernel_rfl) (fun w1 c1 => (op_fieldL (m := 3) (k := 3) rfl (by kernel_rfl) rfl)) ?_
              refine wq_val 38 (by kernel_rfl) (fun w1 c1 => (op_load rfl (by kernel_rfl) (c1.cell 0 (u := .int .i64 _) rfl rfl))) ?_
              refine wq_val 39 (by kernel_rfl) (fun w1 c1 => (op_gtr rfl rfl)) ?_
              refine wq_val 40 (by kernel_rfl) (fun w1 c1 => (op_pick_f (v := .bool _) rfl rfl)) ?_
              refine wq_val 22 (by kernel_rfl) (fun w1 c1 => (op_assign (v := .bool _) rfl)) ?_
              exact leaf_q (sub_out 19 _ rfl (by kernel_rfl) ⟨(congrArg Value.bool (by rw [decide_eq_false h11, decide_eq_false h12, decide_eq_false h13] <;> rfl)), trivial⟩)
      refine xm_next ?_
      refine cm_condB (by kernel_rfl) rfl (fun h14 => ?_) (fun h14 => ?_)
      · skip
        refine cm_seq ?_
        refine cm_region ?_
        refine lm_val 6 (by kernel_rfl) (fun w1 c1 => (op_assign (v := .int .i64 _) rfl)) ?_
        refine lm_nil ?_
        refine xm_next ?_
        refine cm_ret ?_
        refine xm_inR ?_
        refine xm_thenR ?_
        exact xm_retT rfl (by kernel_rfl) (show _ = Value.int .i64 _ from rfl) fun w1 c1 => ⟨(), rfl, hsub [] (by kernel_rfl) rfl w1 c1⟩
      · skip
        refine cm_seq ?_
        refine cm_cutE [(41, .bool ((decide (p0.Node < 0)) || (decide (p2 ≤ p0.Node))))] ?_ ?_
        · skip
          refine wq_val 42 (by kernel_rfl) (fun w1 c1 => (op_fieldL (m := 4) (k := 4) rfl (by kernel_rfl) rfl)) ?_
          refine wq_val 43 (by kernel_rfl) (fun w1 c1 => (op_load rfl (by kernel_rfl) (c1.cell 0 (u := .int .i64 _) rfl rfl))) ?_
          refine wq_dec 44 (by kernel_rfl) (fun w1 c1 => (op_lss rfl rfl)) (fun h15 => ?_) (fun h15 => ?_)
          · skip
            refine wq_val 45 (by kernel_rfl) (fun w1 c1 => (op_move (v := .bool true) rfl)) ?_
            refine wq_skip 46 (by kernel_rfl) ?_
            refine wq_skip 47 (by kernel_rfl) ?_
            refine wq_skip 48 (by kernel_rfl) ?_
            refine wq_skip 49 (by kernel_rfl) ?_
            refine wq_val 50 (by kernel_rfl) (fun w1 c1 => (op_pick_t (v := .bool true) rfl rfl)) ?_
            refine wq_val 41 (by kernel_rfl) (fun w1 c1 => (op_assign (v := .bool true) rfl)) ?_
            exact leaf_q (sub_out 10 _ rfl (by kernel_rfl) ⟨(congrArg Value.bool (by rw [decide_eq_true h15] <;> rfl)), trivial⟩)
          · skip
            refine wq_val 45 (by kernel_rfl) (fun w1 c1 => (op_move (v := .bool false) rfl)) ?_
            refine wq_val 46 (by kernel_rfl) (fun w1 c1 => (op_fieldL (m := 4) (k := 4) rfl (by kernel_rfl) rfl)) ?_
            refine wq_val 47 (by kernel_rfl) (fun w1 c1 => (op_load rfl (by kernel_rfl) (c1.cell 0 (u := .int .i64 _) rfl rfl))) ?_
            refine wq_val 48 (by kernel_rfl) (fun w1 c1 => (op_move (v := .int .i64 _) rfl)) ?_
            refine wq_val 49 (by kernel_rfl) (fun w1 c1 => (op_geq rfl rfl)) ?_
            refine wq_val 50 (by kernel_rfl) (fun w1 c1 => (op_pick_f (v := .bool _) rfl rfl)) ?_
            refine wq_val 41 (by kernel_rfl) (fun w1 c1 => (op_assign (v := .bool _) rfl)) ?_
            exact leaf_q (sub_out 10 _ rfl (by kernel_rfl) ⟨(congrArg Value.bool (by rw [decide_eq_false h15] <;> rfl)), trivial⟩)
        refine xm_next ?_
        refine cm_condB (by kernel_rfl) rfl (fun h16 => ?_) (fun h16 => ?_)
        · skip
          refine cm_seq ?_
          refine cm_region ?_
          refine lm_val 6 (by kernel_rfl) (fun w1 c1 => (op_assign (v := .int .i64 _) rfl)) ?_
          refine lm_nil ?_
          refine xm_next ?_
          refine cm_ret ?_
          refine xm_inR ?_
          refine xm_thenR ?_
          exact xm_retT rfl (by kernel_rfl) (show _ = Value.int .i64 _ from rfl) fun w1 c1 => ⟨(), rfl, hsub [] (by kernel_rfl) rfl w1 c1⟩
        · skip
          refine cm_skip ?_
          refine xm_inN ?_
          refine xm_next ?_
          refine cm_seq ?_
          refine cm_region ?_
          refine lm_val 6 (by kernel_rfl) (fun w1 c1 => (op_assign (v := .int .i64 _) rfl)) ?_
          refine lm_nil ?_
          refine xm_next ?_
          refine cm_ret ?_
          exact xm_retT rfl (by kernel_rfl) (show _ = Value.int .i64 _ from rfl) fun w1 c1 => ⟨(), rfl, hsub [] (by kernel_rfl) rfl w1 c1⟩
/-- container.Check -/
def m_container_Check (N : Nat) (p0 : (List ApiContainer)) (p1 : Int) (p2 : Int) : Option (Int) :=
  (if 256 < (List.length p0 : Int) then
    some ((8 : Int))
  else
    (andThen
      (loopM (fun (s53 : Int) =>
        (if s53 < (List.length p0 : Int) then
          ck ((0 : Int) ≤ s53 ∧ s53 < (List.length p0 : Int)) (
            Option.bind (m_container_check N (ix p0 s53) p1 p2) fun r58 => (if r58 ≠ 0 then
              some (.done (.done (r58)))
            else
              ck (I64 (s53 + (1 : Int))) (
                some (.next (s53 + (1 : Int))))))
        else
          some (.done (.next ())))) N (0 : Int))
    fun (_s33 : Unit) =>
      (andThen
        (loopM (fun (s110 : (List (ByteArray × Bool)) × Int) =>
          (if s110.2 < (List.length p0 : Int) then
            ck ((0 : Int) ≤ s110.2 ∧ s110.2 < (List.length p0 : Int)) (
              ck (ByteArray.size ((ix p0 s110.2).ID) ≤ 9223372036854775807) (
                (if (Option.getD (mget s110.1 ((ix p0 s110.2).ID)) false) = true then
                  some (.done (.done ((6 : Int))))
                else
                  ck (ByteArray.size ((ix p0 s110.2).ID) ≤ 9223372036854775807) (
                    ck (I64 (s110.2 + (1 : Int))) (
                      some (.next ((mput s110.1 ((ix p0 s110.2).ID) true), (s110.2 + (1 : Int)))))))))
          else
            some (.done (.next ())))) N (([] : (List (ByteArray × Bool))), (0 : Int)))
      fun (_s90 : Unit) =>
        some ((0 : Int)))))
set_option maxHeartbeats 2000000 in
set_option maxRecDepth 20000 in
theorem m_container_Check_ok (N : Nat) (w0 : World) (p0 : (List ApiContainer)) (p1 : Int) (p2 : Int) (A_p0 : Option Addr) (n_p0 c_p0 : Nat) (hr_p0 : RdE w0 5 encApiContainer A_p0 p0) (hz_p0 : SW A_p0 n_p0 c_p0 (List.length p0)) (r : Int) (hr : m_container_Check N p0 p1 p2 = some r) :
    Calls Try.prog 43 [.slice A_p0 n_p0 c_p0, .int .i64 p1, .int .i64 p2].toArray w0 fun x w1 => ∃ u, x = .returned ((fun (r : Int) (_u : Unit) => .int .i64 r) r u) ∧ Hs w0 ((fun (_r : Int) (_u : Unit) => []) r u) w1 := by
  refine calls_cm (n := 45) (R := fun r x w1 => ∃ u, x = .returned ((fun (r : Int) (_u : Unit) => .int .i64 r) r u) ∧ Hs w0 ((fun (_r : Int) (_u : Unit) => []) r u) w1) Try.func43 rfl rfl (Nat.le_of_ble_eq_true rfl) ?_ r hr
  unfold m_container_Check
  refine cm_seq ?_
  refine cm_region ?_
  refine lm_val 6 (by kernel_rfl) (fun w1 c1 => (op_assign (v := .int .i64 _) rfl)) ?_
  refine lm_nil ?_
  refine xm_next ?_
  refine cm_seq ?_
  refine cm_seq ?_
  refine cm_region ?_
  refine lm_val 13 (by kernel_rfl) (fun w1 c1 => (op_move (v := .slice _ _ _) rfl)) ?_
  refine lm_val 14 (by kernel_rfl) (fun w1 c1 => (op_lenN rfl (by kernel_rfl) hz_p0.2.2)) ?_
  refine lm_val 15 (by kernel_rfl) (fun w1 c1 => (op_gtr rfl rfl)) ?_
  refine lm_nil ?_
  refine xm_next ?_
  refine cm_cond (by kernel_rfl) rfl (fun h5 => ?_) (fun h5 => ?_)
  · skip
    refine cm_seq ?_
    refine cm_region ?_
    refine lm_val 6 (by kernel_rfl) (fun w1 c1 => (op_assign (v := .int .i64 _) rfl)) ?_
    refine lm_nil ?_
    refine xm_next ?_
    refine cm_ret ?_
    refine xm_thenR ?_
    exact xm_retT rfl (by kernel_rfl) (show _ = Value.int .i64 _ from rfl) fun w1 c1 => ⟨(), rfl, hsub [] (by kernel_rfl) rfl w1 c1⟩
  · skip
    refine cm_skip ?_
    refine xm_next ?_
    refine cm_join (σ := Unit) (ξ := Unit) (fun s33 u34 => [(0, .slice A_p0 n_p0 c_p0)]) (fun s33 u34 => []) ?_ ?_
    · skip
      refine cm_seq ?_
      refine cm_region ?_
      refine lm_val 16 (by kernel_rfl) (fun w1 c1 => (op_move (v := .slice _ _ _) rfl)) ?_
      refine lm_val 17 (by kernel_rfl) (fun w1 c1 => (op_lenN rfl (by kernel_rfl) hz_p0.2.2)) ?_
      refine lm_val 18 (by kernel_rfl) (fun w1 c1 => (op_move (v := .int .i64 _) rfl)) ?_
      refine lm_nil ?_
      refine xm_next ?_
      refine cm_block ?_
      refine cm_loop (σ := Int) (ξ := Unit) (fun s53 u54 => [(0, .slice A_p0 n_p0 c_p0), (1, .int .i64 p1), (2, .int .i64 p2), (16, .slice A_p0 n_p0 c_p0), (17, .int .i64 (List.length p0 : Int)), (18, .int .i64 s53)]) (fun s53 u54 => []) () ?_ ?_ ?_
      · exact (sub_cons (by kernel_rfl) rfl (sub_cons (by kernel_rfl) rfl (sub_cons (by kernel_rfl) rfl (sub_cons (by kernel_rfl) rfl (sub_cons (by kernel_rfl) rfl (sub_cons (by kernel_rfl) rfl sub_nil))))))
      · exact hsub [] (by kernel_rfl) rfl
      intro s53 u54
      refine cm_seq ?_
      refine cm_region ?_
      refine lm_val 19 (by kernel_rfl) (fun w1 c1 => (op_lss rfl rfl)) ?_
      refine lm_nil ?_
      refine xm_next ?_
      refine cm_seq ?_
      refine cm_cond (by kernel_rfl) rfl (fun h55 => ?_) (fun h55 => ?_)
      · skip
        refine cm_skip ?_
        refine xm_next ?_
        refine cm_seq ?_
        refine cm_block ?_
        refine cm_seq ?_
        refine cm_region ?_
        refine lm_ck (fun h56 => ?_)
        refine lm_val 20 (by kernel_rfl) (fun w1 c1 => (op_indexA 5 rfl rfl (by kernel_rfl) ((hr_p0.old c1).addr h56.1 h56.2) hz_p0.2.2 h56.1 h56.2)) ?_
        refine lm_val 21 (by kernel_rfl) (fun w1 c1 => (op_loadR [.string ((ix p0 s53).ID), .int .i64 ((ix p0 s53).Kind), .int .i64 ((ix p0 s53).Litres), .int .i64 ((ix p0 s53).Grams), .int .i64 ((ix p0 s53).Node)] rfl (by kernel_rfl) ((hr_p0.old c1).row h56.1 h56.2))) ?_
        refine lm_alloc 8 [.string (⟨#[]⟩ : ByteArray), .int .i64 0, .int .i64 0, .int .i64 0, .int .i64 0] (v := .agg #[.string (⟨#[]⟩ : ByteArray), .int .i64 0, .int .i64 0, .int .i64 0, .int .i64 0]) (by kernel_rfl) (by kernel_rfl) rfl ?_
        intro b57
        refine lm_storeA 0 [.string _, .int .i64 _, .int .i64 _, .int .i64 _, .int .i64 _] [_, _, _, _, _] (H' := [blkE _ _ [_, _, _, _, _]]) (by kernel_rfl) rfl rfl (by kernel_rfl) rfl rfl (by kernel_rfl) rfl rfl ?_
        refine lm_nil ?_
        refine xm_next ?_
        refine cm_seq ?_
        refine cm_region ?_
        refine lm_val 22 (by kernel_rfl) (fun w1 c1 => (op_loadR [.string _, .int .i64 _, .int .i64 _, .int .i64 _, .int .i64 _] rfl (by kernel_rfl) (c1.cells 0 rfl rfl))) ?_
        refine lm_val 23 (by kernel_rfl) (fun w1 c1 => (op_move (v := .int .i64 _) rfl)) ?_
        refine lm_val 24 (by kernel_rfl) (fun w1 c1 => (op_move (v := .int .i64 _) rfl)) ?_
        refine lm_call 25 (V := (fun (r : Int) (_u : Unit) => .int .i64 r)) (HR := (fun (_r : Int) (_u : Unit) => [])) (by kernel_rfl) (fun w1 => op_call (by kernel_rfl)) (fun r1 hr1 w1 c1 => m_container_check_ok N w1 (ix p0 s53) p1 p2  r1 hr1) ?_
        intro r58 u59
        refine lm_val 9 (by kernel_rfl) (fun w1 c1 => (op_assign (v := .int .i64 _) rfl)) ?_
        refine lm_nil ?_
        refine xm_next ?_
        refine cm_seq ?_
        refine cm_region ?_
        refine lm_val 26 (by kernel_rfl) (fun w1 c1 => (op_move (v := .int .i64 _) rfl)) ?_
        refine lm_val 27 (by kernel_rfl) (fun w1 c1 => (op_neq rfl rfl)) ?_
        refine lm_nil ?_
        refine xm_next ?_
        refine cm_cond (by kernel_rfl) rfl (fun h60 => ?_) (fun h60 => ?_)
        · skip
          refine cm_seq ?_
          refine cm_region ?_
          refine lm_val 28 (by kernel_rfl) (fun w1 c1 => (op_move (v := .int .i64 _) rfl)) ?_
          refine lm_val 6 (by kernel_rfl) (fun w1 c1 => (op_assign (v := .int .i64 _) rfl)) ?_
          refine lm_nil ?_
          refine xm_next ?_
          refine cm_ret ?_
          refine xm_inR ?_
          refine xm_thenR ?_
          refine xm_lret ?_
          refine xm_inR ?_
          refine xm_lret ?_
          exact xm_retT rfl (by kernel_rfl) (show _ = Value.int .i64 _ from rfl) fun w1 c1 => ⟨(), rfl, hsub [] (by kernel_rfl) rfl w1 c1⟩
        · skip
          refine cm_skip ?_
          refine xm_inN ?_
          refine xm_next ?_
          refine cm_region ?_
          refine lm_ck (fun h61 => ?_)
          refine lm_val 29 (by kernel_rfl) (fun w1 c1 => (op_add rfl rfl h61)) ?_
          refine lm_val 18 (by kernel_rfl) (fun w1 c1 => (op_move (v := .int .i64 _) rfl)) ?_
          refine lm_nil ?_
          exact xm_lnext () (sub_cons (by kernel_rfl) rfl (sub_cons (by kernel_rfl) rfl (sub_cons (by kernel_rfl) rfl (sub_cons (by kernel_rfl) rfl (sub_cons (by kernel_rfl) rfl (sub_cons (by kernel_rfl) rfl sub_nil)))))) (hsub [] (by kernel_rfl) rfl)
      · skip
        refine cm_exit ?_
        refine xm_thenE ?_
        refine xm_lexit ?_
        refine xm_here ?_
        exact xm_lnext () (sub_cons (by kernel_rfl) rfl sub_nil) (hsub [] (by kernel_rfl) rfl)
    intro s33 u34
    refine cm_seq ?_
    refine cm_region ?_
    refine lm_makeMap (κ := ByteArray) (α := Bool) 30 9 Value.string Value.bool (by kernel_rfl) ?_
    intro b62
    refine lm_val 10 (by kernel_rfl) (fun w1 c1 => (op_assign (v := .map (some _)) rfl)) ?_
    refine lm_nil ?_
    refine xm_next ?_
    refine cm_join (σ := Unit) (ξ := Unit) (fun s90 u91 => []) (fun s90 u91 => []) ?_ ?_
    · skip
      refine cm_seq ?_
      refine cm_region ?_
      refine lm_val 31 (by kernel_rfl) (fun w1 c1 => (op_move (v := .slice _ _ _) rfl)) ?_
      refine lm_val 32 (by kernel_rfl) (fun w1 c1 => (op_lenN rfl (by kernel_rfl) hz_p0.2.2)) ?_
      refine lm_val 33 (by kernel_rfl) (fun w1 c1 => (op_move (v := .int .i64 _) rfl)) ?_
      refine lm_nil ?_
      refine xm_next ?_
      refine cm_block ?_
      refine cm_loop (σ := (List (ByteArray × Bool)) × Int) (ξ := Unit) (fun s110 u111 => [(10, .map (some b62)), (31, .slice A_p0 n_p0 c_p0), (32, .int .i64 (List.length p0 : Int)), (33, .int .i64 s110.2)]) (fun s110 u111 => [mapE Try.prog 9 Value.string Value.bool b62 s110.1]) () ?_ ?_ ?_
      · exact (sub_cons (by kernel_rfl) rfl (sub_cons (by kernel_rfl) rfl (sub_cons (by kernel_rfl) rfl (sub_cons (by kernel_rfl) rfl sub_nil))))
      · exact hsub [0] (by kernel_rfl) rfl
      intro s110 u111
      refine cm_seq ?_
      refine cm_region ?_
      refine lm_val 34 (by kernel_rfl) (fun w1 c1 => (op_lss rfl rfl)) ?_
      refine lm_nil ?_
      refine xm_next ?_
      refine cm_seq ?_
      refine cm_cond (by kernel_rfl) rfl (fun h112 => ?_) (fun h112 => ?_)
      · skip
        refine cm_skip ?_
        refine xm_next ?_
        refine cm_seq ?_
        refine cm_block ?_
        refine cm_seq ?_
        refine cm_region ?_
        refine lm_ck (fun h113 => ?_)
        refine lm_val 35 (by kernel_rfl) (fun w1 c1 => (op_indexA 5 rfl rfl (by kernel_rfl) ((hr_p0.old c1).addr h113.1 h113.2) hz_p0.2.2 h113.1 h113.2)) ?_
        refine lm_val 36 (by kernel_rfl) (fun w1 c1 => (op_loadR [.string ((ix p0 s110.2).ID), .int .i64 ((ix p0 s110.2).Kind), .int .i64 ((ix p0 s110.2).Litres), .int .i64 ((ix p0 s110.2).Grams), .int .i64 ((ix p0 s110.2).Node)] rfl (by kernel_rfl) ((hr_p0.old c1).row h113.1 h113.2))) ?_
        refine lm_alloc 12 [.string (⟨#[]⟩ : ByteArray), .int .i64 0, .int .i64 0, .int .i64 0, .int .i64 0] (v := .agg #[.string (⟨#[]⟩ : ByteArray), .int .i64 0, .int .i64 0, .int .i64 0, .int .i64 0]) (by kernel_rfl) (by kernel_rfl) rfl ?_
        intro b114
        refine lm_storeA 0 [.string _, .int .i64 _, .int .i64 _, .int .i64 _, .int .i64 _] [_, _, _, _, _] (H' := [blkE _ _ [_, _, _, _, _], _]) (by kernel_rfl) rfl rfl (by kernel_rfl) rfl rfl (by kernel_rfl) rfl rfl ?_
        refine lm_nil ?_
        refine xm_next ?_
        refine cm_seq ?_
        refine cm_seq ?_
        refine cm_region ?_
        refine lm_val 37 (by kernel_rfl) (fun w1 c1 => (op_move (v := .map (some _)) rfl)) ?_
        refine lm_val 38 (by kernel_rfl) (fun w1 c1 => (op_fieldL (m := 0) (k := 0) rfl (by kernel_rfl) rfl)) ?_
        refine lm_val 39 (by kernel_rfl) (fun w1 c1 => (op_load rfl (by kernel_rfl) (c1.cell 0 (u := .string _) rfl rfl))) ?_
        refine lm_ck (fun h115 => ?_)
        refine lm_val 40 (by kernel_rfl) (fun w1 c1 => (op_lookup (κ := ByteArray) (α := Bool) (ek := Value.string) (ev := Value.bool) (l := s110.1) (y := ((ix p0 s110.2).ID)) false rfl rfl (Maps.string_keyed Try.underlying9) ek_str (key_str Try.underlying9 h115) Try.underlying118 rfl (c1.map 1 rfl))) ?_
        refine lm_nil ?_
        refine xm_next ?_
        refine cm_condB (by kernel_rfl) rfl (fun h116 => ?_) (fun h116 => ?_)
        · skip
          refine cm_seq ?_
          refine cm_region ?_
          refine lm_val 6 (by kernel_rfl) (fun w1 c1 => (op_assign (v := .int .i64 _) rfl)) ?_
          refine lm_nil ?_
          refine xm_next ?_
          refine cm_ret ?_
          refine xm_thenR ?_
          refine xm_inR ?_
          refine xm_thenR ?_
          refine xm_lret ?_
          refine xm_inR ?_
          refine xm_lret ?_
          exact xm_retT rfl (by kernel_rfl) (show _ = Value.int .i64 _ from rfl) fun w1 c1 => ⟨(), rfl, hsub [] (by kernel_rfl) rfl w1 c1⟩
        · skip
          refine cm_skip ?_
          refine xm_next ?_
          refine cm_region ?_
          refine lm_val 41 (by kernel_rfl) (fun w1 c1 => (op_move (v := .map (some _)) rfl)) ?_
          refine lm_val 42 (by kernel_rfl) (fun w1 c1 => (op_fieldL (m := 0) (k := 0) rfl (by kernel_rfl) rfl)) ?_
          refine lm_val 43 (by kernel_rfl) (fun w1 c1 => (op_load rfl (by kernel_rfl) (c1.cell 0 (u := .string _) rfl rfl))) ?_
          refine lm_ck (fun h117 => ?_)
          refine lm_mapUpdate 1 (κ := ByteArray) (α := Bool) (ek := Value.string) (ev := Value.bool) (l := s110.1) (y := ((ix p0 s110.2).ID)) (a := true) (by kernel_rfl) rfl rfl rfl (Maps.string_keyed Try.underlying9) ek_str (key_str Try.underlying9 h117) Try.underlying118 rfl rfl ?_
          refine lm_nil ?_
          refine xm_inN ?_
          refine xm_next ?_
          refine cm_region ?_
          refine lm_ck (fun h118 => ?_)
          refine lm_val 44 (by kernel_rfl) (fun w1 c1 => (op_add rfl rfl h118)) ?_
          refine lm_val 33 (by kernel_rfl) (fun w1 c1 => (op_move (v := .int .i64 _) rfl)) ?_
          refine lm_nil ?_
          exact xm_lnext () (sub_cons (by kernel_rfl) rfl (sub_cons (by kernel_rfl) rfl (sub_cons (by kernel_rfl) rfl (sub_cons (by kernel_rfl) rfl sub_nil)))) (hsub [1] (by kernel_rfl) rfl)
      · skip
        refine cm_exit ?_
        refine xm_thenE ?_
        refine xm_lexit ?_
        refine xm_here ?_
        exact xm_lnext () sub_nil (hsub [] (by kernel_rfl) rfl)
    intro s90 u91
    refine cm_seq ?_
    refine cm_region ?_
    refine lm_val 6 (by kernel_rfl) (fun w1 c1 => (op_assign (v := .int .i64 _) rfl)) ?_
    refine lm_nil ?_
    refine xm_next ?_
    refine cm_ret ?_
    exact xm_retT rfl (by kernel_rfl) (show _ = Value.int .i64 _ from rfl) fun w1 c1 => ⟨(), rfl, hsub [] (by kernel_rfl) rfl w1 c1⟩
end Go.Proofs.Ytljogldcejcikaa
