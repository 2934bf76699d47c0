/- Models of functions, and that the code follows them. Written by deco.py. -/
import Derived.Test.YtimmifkdocjljaaAuc1
import Derived.Test.YtimmifkdocjljaaBitsMul
namespace Go.Proofs.Ytimmifkdocjljaa
open Go.RowKit

/-- slices.Repeat -/
def m_slices_Repeat (N : Nat) (p0 : (List AuctionUnit)) (p1 : Int) : Option ((List AuctionUnit)) :=
  (andThen
    (if p1 < 0 then
      none
    else
      some (.next ()))
  fun (_s2 : Unit) =>
    ck ((0 : Int) ≤ (List.length p0 : Int) ∧ (List.length p0 : Int) ≤ 18446744073709551615) (
      ck ((0 : Int) ≤ p1 ∧ p1 ≤ 18446744073709551615) (
        Option.bind (m_bits_Mul N (List.length p0 : Int) p1) fun r7 => (andThen
          (if ((decide (0 < r7.1)) || (decide (9223372036854775807 < r7.2))) = true then
            none
          else
            some (.next ()))
        fun (_s11 : Unit) =>
          ck (I64 r7.2) (
            ck ((0 : Int) ≤ r7.2 ∧ Int.toNat r7.2 * 16 ≤ 140737488355328) (
              (andThen
                (loopM (fun (s123 : (List AuctionUnit) × Int) =>
                  (if s123.2 < (List.length s123.1 : Int) then
                    ck ((0 : Int) ≤ s123.2 ∧ s123.2 ≤ (List.length s123.1 : Int)) (
                      ck ((0 : Int) ≤ s123.2 ∧ s123.2 ≤ (List.length s123.1 : Int)) (
                        ck (I64 (s123.2 + (((min (List.length s123.1 - (Int.toNat s123.2)) (List.length (List.take (Int.toNat s123.2) s123.1)) : Nat)) : Int))) (
                          some (.next ((copyAt s123.1 (Int.toNat s123.2) (List.take (Int.toNat s123.2) s123.1) (min (List.length s123.1 - (Int.toNat s123.2)) (List.length (List.take (Int.toNat s123.2) s123.1)))), (s123.2 + (((min (List.length s123.1 - (Int.toNat s123.2)) (List.length (List.take (Int.toNat s123.2) s123.1)) : Nat)) : Int)))))))
                  else
                    some (.done (.next s123.1)))) N ((copyAt (List.replicate (Int.toNat r7.2) (AuctionUnit.mk (0 : Int) (0 : Int))) 0 p0 (min (List.length (List.replicate (Int.toNat r7.2) (AuctionUnit.mk (0 : Int) (0 : Int))) - 0) (List.length p0))), (((min (List.length (List.replicate (Int.toNat r7.2) (AuctionUnit.mk (0 : Int) (0 : Int))) - 0) (List.length p0) : Nat)) : Int)))
              fun (s81 : (List AuctionUnit)) =>
                some (s81))))))))
set_option maxRecDepth 20000 in
theorem m_slices_Repeat_ok (N : Nat) (w0 : World) (p0 : (List AuctionUnit)) (p1 : Int) (A_p0 : Option Addr) (n_p0 c_p0 : Nat) (hr_p0 : RdE w0 2 encAuctionUnit A_p0 p0) (hz_p0 : SW A_p0 n_p0 c_p0 (List.length p0)) (r : (List AuctionUnit)) (hr : m_slices_Repeat N p0 p1 = some r) :
    Calls Try.prog 31 [.slice A_p0 n_p0 c_p0, .int .i64 p1].toArray w0 fun x w1 => ∃ u, x = .returned ((fun (_r : (List AuctionUnit)) (u : (Option Addr) × Nat × Nat) => .slice u.1 u.2.1 u.2.2) r u) ∧ Hs w0 ((fun (r : (List AuctionUnit)) (u : (Option Addr) × Nat × Nat) => [ownE 54 2 encAuctionUnit u.1 u.2.1 u.2.2 r]) r u) w1 := by
  refine calls_cm (n := 48) (R := fun r x w1 => ∃ u, x = .returned ((fun (_r : (List AuctionUnit)) (u : (Option Addr) × Nat × Nat) => .slice u.1 u.2.1 u.2.2) r u) ∧ Hs w0 ((fun (r : (List AuctionUnit)) (u : (Option Addr) × Nat × Nat) => [ownE 54 2 encAuctionUnit u.1 u.2.1 u.2.2 r]) r u) w1) Try.func31 rfl rfl (Nat.le_of_ble_eq_true rfl) ?_ r hr
  unfold m_slices_Repeat
  refine cm_seq ?_
  refine cm_region ?_
  refine lm_val 4 (by kernel_rfl) (fun w1 c1 => (op_assign (v := .slice _ _ _) rfl)) ?_
  refine lm_nil ?_
  refine xm_next ?_
  refine cm_join (σ := Unit) (ξ := Unit) (fun s2 u3 => [(0, .slice A_p0 n_p0 c_p0), (1, .int .i64 p1)]) (fun s2 u3 => []) ?_ ?_
  · skip
    refine cm_seq ?_
    refine cm_region ?_
    refine lm_val 9 (by kernel_rfl) (fun w1 c1 => (op_move (v := .int .i64 _) rfl)) ?_
    refine lm_val 10 (by kernel_rfl) (fun w1 c1 => (op_lss rfl rfl)) ?_
    refine lm_nil ?_
    refine xm_next ?_
    refine cm_cond (by kernel_rfl) rfl (fun h4 => ?_) (fun h4 => ?_)
    · skip
      exact cm_none
    · skip
      refine cm_skip ?_
      exact xm_lnext () (sub_cons (by kernel_rfl) rfl (sub_cons (by kernel_rfl) rfl sub_nil)) (hsub [] (by kernel_rfl) rfl)
  intro s2 u3
  refine cm_seq ?_
  refine cm_region ?_
  refine lm_val 13 (by kernel_rfl) (fun w1 c1 => (op_move (v := .slice _ _ _) rfl)) ?_
  refine lm_val 14 (by kernel_rfl) (fun w1 c1 => (op_lenN rfl (by kernel_rfl) hz_p0.2.2)) ?_
  refine lm_ck (fun h5 => ?_)
  refine lm_val 15 (by kernel_rfl) (fun w1 c1 => (op_convU64 rfl (by kernel_rfl) (by kernel_rfl) h5)) ?_
  refine lm_val 16 (by kernel_rfl) (fun w1 c1 => (op_move (v := .int .i64 _) rfl)) ?_
  refine lm_ck (fun h6 => ?_)
  refine lm_val 17 (by kernel_rfl) (fun w1 c1 => (op_convU64 rfl (by kernel_rfl) (by kernel_rfl) h6)) ?_
  refine lm_call 18 (V := (fun (r : Int × Int) (_u : Unit) => .tuple #[.int .u64 r.1, .int .u64 r.2])) (HR := (fun (_r : Int × Int) (_u : Unit) => [])) (by kernel_rfl) (fun w1 => op_call (by kernel_rfl)) (fun r1 hr1 w1 c1 => m_bits_Mul_ok N w1 (List.length p0 : Int) p1  r1 hr1) ?_
  intro r7 u8
  refine lm_val 12 (by kernel_rfl) (fun w1 c1 => (op_move (v := .tuple _) rfl)) ?_
  refine lm_val 19 (by kernel_rfl) (fun w1 c1 => (op_extract (v := .int .u64 _) rfl rfl)) ?_
  refine lm_val 20 (by kernel_rfl) (fun w1 c1 => (op_extract (v := .int .u64 _) rfl rfl)) ?_
  refine lm_val 5 (by kernel_rfl) (fun w1 c1 => (op_assign (v := .int .u64 _) rfl)) ?_
  refine lm_val 6 (by kernel_rfl) (fun w1 c1 => (op_assign (v := .int .u64 _) rfl)) ?_
  refine lm_nil ?_
  refine xm_next ?_
  refine cm_join (σ := Unit) (ξ := Unit) (fun s11 u12 => [(0, .slice A_p0 n_p0 c_p0), (6, .int .u64 r7.2)]) (fun s11 u12 => []) ?_ ?_
  · skip
    refine cm_seq ?_
    refine cm_cutE [(26, .bool ((decide (0 < r7.1)) || (decide (9223372036854775807 < r7.2))))] ?_ ?_
    · skip
      refine wq_val 21 (by kernel_rfl) (fun w1 c1 => (op_move (v := .int .u64 _) rfl)) ?_
      refine wq_dec 22 (by kernel_rfl) (fun w1 c1 => (op_gtrK rfl rfl)) (fun h13 => ?_) (fun h13 => ?_)
      · skip
        refine wq_val 23 (by kernel_rfl) (fun w1 c1 => (op_move (v := .bool true) rfl)) ?_
        refine wq_skip 24 (by kernel_rfl) ?_
        refine wq_skip 25 (by kernel_rfl) ?_
        refine wq_val 26 (by kernel_rfl) (fun w1 c1 => (op_pick_t (v := .bool true) rfl rfl)) ?_
        exact leaf_q (sub_out 6 _ rfl (by kernel_rfl) ⟨(congrArg Value.bool (by rw [decide_eq_true h13] <;> rfl)), trivial⟩)
      · skip
        refine wq_val 23 (by kernel_rfl) (fun w1 c1 => (op_move (v := .bool false) rfl)) ?_
        refine wq_val 24 (by kernel_rfl) (fun w1 c1 => (op_move (v := .int .u64 _) rfl)) ?_
        refine wq_val 25 (by kernel_rfl) (fun w1 c1 => (op_gtrK rfl rfl)) ?_
        refine wq_val 26 (by kernel_rfl) (fun w1 c1 => (op_pick_f (v := .bool _) rfl rfl)) ?_
        exact leaf_q (sub_out 6 _ rfl (by kernel_rfl) ⟨(congrArg Value.bool (by rw [decide_eq_false h13] <;> rfl)), trivial⟩)
    refine xm_next ?_
    refine cm_condB (by kernel_rfl) rfl (fun h14 => ?_) (fun h14 => ?_)
    · skip
      exact cm_none
    · skip
      refine cm_skip ?_
      exact xm_lnext () (sub_cons (by kernel_rfl) rfl (sub_cons (by kernel_rfl) rfl sub_nil)) (hsub [] (by kernel_rfl) rfl)
  intro s11 u12
  refine cm_seq ?_
  refine cm_region ?_
  refine lm_val 28 (by kernel_rfl) (fun w1 c1 => (op_move (v := .int .u64 _) rfl)) ?_
  refine lm_ck (fun h15 => ?_)
  refine lm_val 29 (by kernel_rfl) (fun w1 c1 => (op_convI64 rfl (by kernel_rfl) (by kernel_rfl) h15)) ?_
  refine lm_ck (fun h16 => ?_)
  refine lm_make 30 (el := 54) (sz := 2) (bytes := 16) (enc := encAuctionUnit) (AuctionUnit.mk (0 : Int) (0 : Int)) (zv := .agg #[.int .i64 0, .int .i64 0]) (by kernel_rfl) (by kernel_rfl) (by kernel_rfl) rfl encAuctionUnit_len rfl rfl h16.1 h16.2 (by kernel_rfl) ?_
  intro A17 n18 k19 h20
  refine lm_val 7 (by kernel_rfl) (fun w1 c1 => (op_assign (v := .slice _ _ _) rfl)) ?_
  refine lm_nil ?_
  refine xm_next ?_
  refine cm_seq ?_
  refine cm_region ?_
  refine lm_val 31 (by kernel_rfl) (fun w1 c1 => (op_move (v := .slice _ _ _) rfl)) ?_
  refine lm_val 32 (by kernel_rfl) (fun w1 c1 => (op_move (v := .slice _ _ _) rfl)) ?_
  refine lm_copy 33 0 (el := 54) (sz := 2) (bytes := 16) (enc := encAuctionUnit) (l2 := p0) 0 (by kernel_rfl) (by kernel_rfl) encAuctionUnit_len encAuctionUnit_one rfl rfl (fun w1 c1 => own_at (c1.own 0 rfl encAuctionUnit_len) (c1.ownZ 0 rfl)) (fun w1 c1 => by rw [(c1.ownZ 0 rfl).2.2]; rfl) (Nat.zero_le _) rfl (fun w1 c1 => hz_p0) (fun w1 c1 => (hr_p0.old c1)) ?_
  refine lm_val 8 (by kernel_rfl) (fun w1 c1 => (op_assign (v := .int .i64 _) rfl)) ?_
  refine lm_nil ?_
  refine xm_next ?_
  refine cm_join (σ := (List AuctionUnit)) (ξ := (Option Addr) × Nat × Nat) (fun s81 u82 => [(7, .slice u82.1 u82.2.1 u82.2.2)]) (fun s81 u82 => [ownE 54 2 encAuctionUnit u82.1 u82.2.1 u82.2.2 s81]) ?_ ?_
  · skip
    refine cm_block ?_
    refine cm_loop (σ := (List AuctionUnit) × Int) (ξ := (Option Addr) × Nat × Nat) (fun s123 u124 => [(7, .slice u124.1 u124.2.1 u124.2.2), (8, .int .i64 s123.2)]) (fun s123 u124 => [ownE 54 2 encAuctionUnit u124.1 u124.2.1 u124.2.2 s123.1]) (A17, n18, k19) ?_ ?_ ?_
    · exact (sub_cons (by kernel_rfl) rfl (sub_cons (by kernel_rfl) rfl sub_nil))
    · exact hsub [0] (by kernel_rfl) rfl
    intro s123 u124
    refine cm_seq ?_
    refine cm_seq ?_
    refine cm_region ?_
    refine lm_val 34 (by kernel_rfl) (fun w1 c1 => (op_move (v := .int .i64 _) rfl)) ?_
    refine lm_val 35 (by kernel_rfl) (fun w1 c1 => (op_move (v := .slice _ _ _) rfl)) ?_
    refine lm_val 36 (by kernel_rfl) (fun w1 c1 => (op_lenN rfl (by kernel_rfl) (c1.ownZ 0 rfl).2.2)) ?_
    refine lm_val 37 (by kernel_rfl) (fun w1 c1 => (op_lss rfl rfl)) ?_
    refine lm_nil ?_
    refine xm_next ?_
    refine cm_cond (by kernel_rfl) rfl (fun h125 => ?_) (fun h125 => ?_)
    · skip
      refine cm_skip ?_
      refine xm_next ?_
      refine cm_block ?_
      refine cm_ck (fun h126 => ?_)
      refine cm_ck (fun h127 => ?_)
      refine cm_ck (fun h130 => ?_)
      refine cm_of_then ?_
      refine cm_held (ξ := Unit) (fun u135 => [(7, .slice u124.1 u124.2.1 u124.2.2), (8, .int .i64 (s123.2 + (((min (List.length s123.1 - (Int.toNat s123.2)) (List.length (List.take (Int.toNat s123.2) s123.1)) : Nat)) : Int)))]) (fun u135 => [ownE 54 2 encAuctionUnit u124.1 u124.2.1 u124.2.2 (copyAt s123.1 (Int.toNat s123.2) (List.take (Int.toNat s123.2) s123.1) (min (List.length s123.1 - (Int.toNat s123.2)) (List.length (List.take (Int.toNat s123.2) s123.1))))]) [] 10 (by kernel_rfl) (by rfl) (hsub [] (by kernel_rfl) (by rfl)) ?_ ?_
      · intro w137 c138
        refine wh_take 0 38 rfl (by kernel_rfl) (by kernel_rfl) (fun w2 c2 => (op_move (v := .int .i64 _) rfl)) (hsub [] (by kernel_rfl) rfl _ c138) ?_
        refine wh_take 1 39 rfl (by kernel_rfl) (by kernel_rfl) (fun w2 c2 => (op_move (v := .slice _ _ _) rfl)) (hsub [] (by kernel_rfl) rfl _ c138) ?_
        refine wh_take 2 40 rfl (by kernel_rfl) (by kernel_rfl) (fun w2 c2 => (op_move (v := .int .i64 _) rfl)) (hsub [] (by kernel_rfl) rfl _ c138) ?_
        refine wh_take 4 42 rfl (by kernel_rfl) (by kernel_rfl) (fun w2 c2 => (op_move (v := .slice _ _ _) rfl)) (hsub [] (by kernel_rfl) rfl _ c138) ?_
        refine wh_take 5 43 rfl (by kernel_rfl) (by kernel_rfl) (fun w2 c2 => (op_move (v := .int .i64 _) rfl)) (hsub [] (by kernel_rfl) rfl _ c138) ?_
        refine wh_ready [3, 6] (by kernel_rfl) rfl ⟨?_, ?_, trivial⟩
        · skip
          refine ws_run 41 rfl (by kernel_rfl) (op_sliceFrom (l := s123.1) 2 rfl rfl (by kernel_rfl) (by kernel_rfl) (c138.ownZ 0 rfl) h126.1 h126.2) (hsub [] (by kernel_rfl) rfl _ c138) ?_
          refine wh_ready [6] (by kernel_rfl) rfl ⟨?_, trivial⟩
          refine ws_run 44 rfl (by kernel_rfl) (op_sliceTo2 (l := s123.1) rfl rfl (by kernel_rfl) (by kernel_rfl) (c138.ownZ 0 rfl) h127.1 h127.2) (hsub [] (by kernel_rfl) rfl _ c138) ?_
          refine wh_ready [7] (by kernel_rfl) rfl ⟨?_, trivial⟩
          refine ws_copy 45 0 (el := 54) (sz := 2) (bytes := 16) (enc := encAuctionUnit) (l2 := (List.take (Int.toNat s123.2) s123.1)) (Int.toNat s123.2) rfl (by kernel_rfl) (by kernel_rfl) encAuctionUnit_len encAuctionUnit_one rfl rfl (adv_at (c138.own 0 rfl encAuctionUnit_len) (c138.ownZ 0 rfl) h126.1 h126.2) (by rw [(c138.ownZ 0 rfl).2.2]) (by have := h126.2; omega) rfl (((c138.ownZ 0 rfl).take h127.1 h127.2)) (((c138.own 0 rfl encAuctionUnit_len).take h127.1 h127.2)) c138 ?_
          intro w139 c140
          refine ⟨(hsub [] (by kernel_rfl) rfl _ c140), ?_⟩
          refine wh_take 8 46 rfl (by kernel_rfl) (by kernel_rfl) (fun w2 c2 => (op_add rfl rfl h130)) (hsub [] (by kernel_rfl) rfl _ c140) ?_
          refine wh_take 9 8 rfl (by kernel_rfl) (by kernel_rfl) (fun w2 c2 => (op_assign (v := .int .i64 _) rfl)) (hsub [] (by kernel_rfl) rfl _ c140) ?_
          exact wh_done () (by kernel_rfl) (sub_cons (by kernel_rfl) rfl (sub_cons (by kernel_rfl) rfl sub_nil)) (hsub [0] (by kernel_rfl) rfl _ c140)
        · skip
          refine ws_run 44 rfl (by kernel_rfl) (op_sliceTo2 (l := s123.1) rfl rfl (by kernel_rfl) (by kernel_rfl) (c138.ownZ 0 rfl) h127.1 h127.2) (hsub [] (by kernel_rfl) rfl _ c138) ?_
          refine wh_ready [3] (by kernel_rfl) rfl ⟨?_, trivial⟩
          refine ws_run 41 rfl (by kernel_rfl) (op_sliceFrom (l := s123.1) 2 rfl rfl (by kernel_rfl) (by kernel_rfl) (c138.ownZ 0 rfl) h126.1 h126.2) (hsub [] (by kernel_rfl) rfl _ c138) ?_
          refine wh_ready [7] (by kernel_rfl) rfl ⟨?_, trivial⟩
          refine ws_copy 45 0 (el := 54) (sz := 2) (bytes := 16) (enc := encAuctionUnit) (l2 := (List.take (Int.toNat s123.2) s123.1)) (Int.toNat s123.2) rfl (by kernel_rfl) (by kernel_rfl) encAuctionUnit_len encAuctionUnit_one rfl rfl (adv_at (c138.own 0 rfl encAuctionUnit_len) (c138.ownZ 0 rfl) h126.1 h126.2) (by rw [(c138.ownZ 0 rfl).2.2]) (by have := h126.2; omega) rfl (((c138.ownZ 0 rfl).take h127.1 h127.2)) (((c138.own 0 rfl encAuctionUnit_len).take h127.1 h127.2)) c138 ?_
          intro w141 c142
          refine ⟨(hsub [] (by kernel_rfl) rfl _ c142), ?_⟩
          refine wh_take 8 46 rfl (by kernel_rfl) (by kernel_rfl) (fun w2 c2 => (op_add rfl rfl h130)) (hsub [] (by kernel_rfl) rfl _ c142) ?_
          refine wh_take 9 8 rfl (by kernel_rfl) (by kernel_rfl) (fun w2 c2 => (op_assign (v := .int .i64 _) rfl)) (hsub [] (by kernel_rfl) rfl _ c142) ?_
          exact wh_done () (by kernel_rfl) (sub_cons (by kernel_rfl) rfl (sub_cons (by kernel_rfl) rfl sub_nil)) (hsub [0] (by kernel_rfl) rfl _ c142)
      intro u135
      refine xm_of_then ?_
      refine xm_inN ?_
      exact xm_lnext (u124.1, u124.2.1, u124.2.2) (sub_cons (by kernel_rfl) rfl (sub_cons (by kernel_rfl) rfl sub_nil)) (hsub [0] (by kernel_rfl) rfl)
    · skip
      refine cm_exit ?_
      refine xm_thenE ?_
      refine xm_lexit ?_
      refine xm_here ?_
      exact xm_lnext (u124.1, u124.2.1, u124.2.2) (sub_cons (by kernel_rfl) rfl sub_nil) (hsub [0] (by kernel_rfl) rfl)
  intro s81 u82
  refine cm_seq ?_
  refine cm_region ?_
  refine lm_val 47 (by kernel_rfl) (fun w1 c1 => (op_move (v := .slice _ _ _) rfl)) ?_
  refine lm_val 4 (by kernel_rfl) (fun w1 c1 => (op_assign (v := .slice _ _ _) rfl)) ?_
  refine lm_nil ?_
  refine xm_next ?_
  refine cm_ret ?_
  exact xm_retT rfl (by kernel_rfl) (show _ = Value.slice _ _ _ from rfl) fun w1 c1 => ⟨(u82.1, u82.2.1, u82.2.2), rfl, hsub [0] (by kernel_rfl) rfl w1 c1⟩
end Go.Proofs.Ytimmifkdocjljaa
