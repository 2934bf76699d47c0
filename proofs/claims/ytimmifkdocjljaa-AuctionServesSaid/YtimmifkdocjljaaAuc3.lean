/- Models of functions, and that the code follows them. Written by deco.py. -/
import Derived.Test.YtimmifkdocjljaaUnitSort
namespace Go.Proofs.Ytimmifkdocjljaa
open Go.RowKit

/-- auction.asked -/
def m_auction_asked (N : Nat) (p0 : (List ApiBid)) (p1 : Int) : Option ((List AuctionUnit)) :=
  (andThen
    (loopM (fun (s163 : (List AuctionUnit) × Int) =>
      (if s163.2 < (List.length p0 : Int) then
        (andThen
          (ck ((0 : Int) ≤ s163.2 ∧ s163.2 < (List.length p0 : Int)) (
            (if p1 ≤ (ix p0 s163.2).Price then
              Option.bind (m_slices_Repeat N ([(AuctionUnit.mk ((ix p0 s163.2).Price) s163.2)]) ((ix p0 s163.2).Count)) fun r188 => ck ((List.length s163.1 + List.length r188) * 16 ≤ 140737488355328) (
                some (.next (s163.1 ++ r188)))
            else
              some (.next s163.1))))
        fun (s179 : (List AuctionUnit)) =>
          ck (I64 (s163.2 + (1 : Int))) (
            some (.next (s179, (s163.2 + (1 : Int))))))
      else
        some (.done (.next s163.1)))) N (([] : List AuctionUnit), (0 : Int)))
  fun (s97 : (List AuctionUnit)) =>
    ck (3 ≤ N ∧ List.length s97 < 4611686018427387904) (
      some ((unitCmp_sorted s97))))
set_option maxRecDepth 20000 in
theorem m_auction_asked_ok (N : Nat) (w0 : World) (p0 : (List ApiBid)) (p1 : Int) (A_p0 : Option Addr) (n_p0 c_p0 : Nat) (hr_p0 : RdE w0 3 encApiBid A_p0 p0) (hz_p0 : SW A_p0 n_p0 c_p0 (List.length p0)) (r : (List AuctionUnit)) (hr : m_auction_asked N p0 p1 = some r) :
    Calls Try.prog 25 [.slice A_p0 n_p0 c_p0, .int .i64 p1].toArray w0 fun x w1 => ∃ u, x = .returned ((fun (_r : (List AuctionUnit)) (u : (Option Addr) × Nat × Nat) => .slice u.1 u.2.1 u.2.2) r u) ∧ Hs w0 ((fun (r : (List AuctionUnit)) (u : (Option Addr) × Nat × Nat) => [ownE 54 2 encAuctionUnit u.1 u.2.1 u.2.2 r]) r u) w1 := by
  refine calls_cm (n := 33) (R := fun r x w1 => ∃ u, x = .returned ((fun (_r : (List AuctionUnit)) (u : (Option Addr) × Nat × Nat) => .slice u.1 u.2.1 u.2.2) r u) ∧ Hs w0 ((fun (r : (List AuctionUnit)) (u : (Option Addr) × Nat × Nat) => [ownE 54 2 encAuctionUnit u.1 u.2.1 u.2.2 r]) r u) w1) Try.func25 rfl rfl (Nat.le_of_ble_eq_true rfl) ?_ r hr
  unfold m_auction_asked
  refine cm_seq ?_
  refine cm_region ?_
  refine lm_val 4 (by kernel_rfl) (fun w1 c1 => (op_assign (v := .slice _ _ _) rfl)) ?_
  refine lm_nil ?_
  refine xm_next ?_
  refine cm_seq ?_
  refine cm_region ?_
  refine lm_val 5 (by kernel_rfl) (fun w1 c1 => (op_assign (v := .slice _ _ _) rfl)) ?_
  refine lm_nil ?_
  refine xm_next ?_
  refine cm_join (σ := (List AuctionUnit)) (ξ := (Option Addr) × Nat × Nat) (fun s97 u98 => [(5, .slice u98.1 u98.2.1 u98.2.2)]) (fun s97 u98 => [ownE 54 2 encAuctionUnit u98.1 u98.2.1 u98.2.2 s97]) ?_ ?_
  · skip
    refine cm_seq ?_
    refine cm_region ?_
    refine lm_val 8 (by kernel_rfl) (fun w1 c1 => (op_move (v := .slice _ _ _) rfl)) ?_
    refine lm_val 9 (by kernel_rfl) (fun w1 c1 => (op_lenN rfl (by kernel_rfl) hz_p0.2.2)) ?_
    refine lm_val 10 (by kernel_rfl) (fun w1 c1 => (op_move (v := .int .i64 _) rfl)) ?_
    refine lm_nil ?_
    refine xm_next ?_
    refine cm_block ?_
    refine cm_nilrow 54 2 encAuctionUnit ?_
    refine cm_loop (σ := (List AuctionUnit) × Int) (ξ := (Option Addr) × Nat × Nat) (fun s163 u164 => [(1, .int .i64 p1), (5, .slice u164.1 u164.2.1 u164.2.2), (8, .slice A_p0 n_p0 c_p0), (9, .int .i64 (List.length p0 : Int)), (10, .int .i64 s163.2)]) (fun s163 u164 => [ownE 54 2 encAuctionUnit u164.1 u164.2.1 u164.2.2 s163.1]) (none, 0, 0) ?_ ?_ ?_
    · exact (sub_cons (by kernel_rfl) rfl (sub_cons (by kernel_rfl) rfl (sub_cons (by kernel_rfl) rfl (sub_cons (by kernel_rfl) rfl (sub_cons (by kernel_rfl) rfl sub_nil)))))
    · exact hsub [0] (by kernel_rfl) rfl
    intro s163 u164
    refine cm_seq ?_
    refine cm_region ?_
    refine lm_val 11 (by kernel_rfl) (fun w1 c1 => (op_lss rfl rfl)) ?_
    refine lm_nil ?_
    refine xm_next ?_
    refine cm_seq ?_
    refine cm_cond (by kernel_rfl) rfl (fun h165 => ?_) (fun h165 => ?_)
    · skip
      refine cm_skip ?_
      refine xm_next ?_
      refine cm_join (σ := (List AuctionUnit)) (ξ := (Option Addr) × Nat × Nat) (fun s179 u180 => [(1, .int .i64 p1), (5, .slice u180.1 u180.2.1 u180.2.2), (8, .slice A_p0 n_p0 c_p0), (9, .int .i64 (List.length p0 : Int)), (10, .int .i64 s163.2)]) (fun s179 u180 => [ownE 54 2 encAuctionUnit u180.1 u180.2.1 u180.2.2 s179]) ?_ ?_
      · skip
        refine cm_block ?_
        refine cm_seq ?_
        refine cm_region ?_
        refine lm_val 12 (by kernel_rfl) (fun w1 c1 => (op_move (v := .int .i64 _) rfl)) ?_
        refine lm_ck (fun h181 => ?_)
        refine lm_val 13 (by kernel_rfl) (fun w1 c1 => (op_indexA 3 rfl rfl (by kernel_rfl) ((hr_p0.old c1).addr h181.1 h181.2) hz_p0.2.2 h181.1 h181.2)) ?_
        refine lm_val 14 (by kernel_rfl) (fun w1 c1 => (op_loadR [.int .i64 ((ix p0 s163.2).Bidder), .int .i64 ((ix p0 s163.2).Price), .int .i64 ((ix p0 s163.2).Count)] rfl (by kernel_rfl) ((hr_p0.old c1).row h181.1 h181.2))) ?_
        refine lm_alloc 7 [.int .i64 0, .int .i64 0, .int .i64 0] (v := .agg #[.int .i64 0, .int .i64 0, .int .i64 0]) (by kernel_rfl) (by kernel_rfl) rfl ?_
        intro b182
        refine lm_val 6 (by kernel_rfl) (fun w1 c1 => (op_assign (v := .int .i64 _) rfl)) ?_
        refine lm_storeA 0 [.int .i64 _, .int .i64 _, .int .i64 _] [_, _, _] (H' := [blkE _ _ [_, _, _], _]) (by kernel_rfl) rfl rfl (by kernel_rfl) rfl rfl (by kernel_rfl) rfl rfl ?_
        refine lm_nil ?_
        refine xm_next ?_
        refine cm_seq ?_
        refine cm_region ?_
        refine lm_val 15 (by kernel_rfl) (fun w1 c1 => (op_fieldL (m := 1) (k := 1) rfl (by kernel_rfl) rfl)) ?_
        refine lm_val 16 (by kernel_rfl) (fun w1 c1 => (op_load rfl (by kernel_rfl) (c1.cell 0 (u := .int .i64 _) rfl rfl))) ?_
        refine lm_val 17 (by kernel_rfl) (fun w1 c1 => (op_move (v := .int .i64 _) rfl)) ?_
        refine lm_val 18 (by kernel_rfl) (fun w1 c1 => (op_geq rfl rfl)) ?_
        refine lm_nil ?_
        refine xm_next ?_
        refine cm_cond (by kernel_rfl) rfl (fun h183 => ?_) (fun h183 => ?_)
        · skip
          refine cm_region ?_
          refine lm_val 19 (by kernel_rfl) (fun w1 c1 => (op_move (v := .slice _ _ _) rfl)) ?_
          refine lm_val 20 (by kernel_rfl) (fun w1 c1 => (op_fieldL (m := 1) (k := 1) rfl (by kernel_rfl) rfl)) ?_
          refine lm_val 21 (by kernel_rfl) (fun w1 c1 => (op_load rfl (by kernel_rfl) (c1.cell 0 (u := .int .i64 _) rfl rfl))) ?_
          refine lm_val 22 (by kernel_rfl) (fun w1 c1 => (op_move (v := .int .i64 _) rfl)) ?_
          refine lm_val 23 (by kernel_rfl) (fun w1 c1 => (op_build (z := [.int .i64 0, .int .i64 0]) (tab := [(0, 1), (1, 1)]) (cs := [.int .i64 _, .int .i64 _]) [(0, [.int .i64 _]), (1, [.int .i64 _])] (by kernel_rfl) (by kernel_rfl) (fillOk_cons rfl rfl rfl (fillOk_cons rfl rfl rfl fillOk_nil)) rfl)) ?_
          refine lm_slice1 24 (el := 54) (sz := 2) (bytes := 16) (enc := encAuctionUnit) (AuctionUnit.mk ((ix p0 s163.2).Price) s163.2) (by kernel_rfl) (by kernel_rfl) encAuctionUnit_len rfl (by kernel_rfl) ?_
          intro A184 n185 k186 h187
          refine lm_val 25 (by kernel_rfl) (fun w1 c1 => (op_fieldL (m := 2) (k := 2) rfl (by kernel_rfl) rfl)) ?_
          refine lm_val 26 (by kernel_rfl) (fun w1 c1 => (op_load rfl (by kernel_rfl) (c1.cell 1 (u := .int .i64 _) rfl rfl))) ?_
          refine lm_call 27 (V := (fun (_r : (List AuctionUnit)) (u : (Option Addr) × Nat × Nat) => .slice u.1 u.2.1 u.2.2)) (HR := (fun (r : (List AuctionUnit)) (u : (Option Addr) × Nat × Nat) => [ownE 54 2 encAuctionUnit u.1 u.2.1 u.2.2 r])) (by kernel_rfl) (fun w1 => op_call (by kernel_rfl)) (fun r1 hr1 w1 c1 => m_slices_Repeat_ok N w1 ([(AuctionUnit.mk ((ix p0 s163.2).Price) s163.2)]) ((ix p0 s163.2).Count) A184 n185 k186 (c1.own 0 rfl encAuctionUnit_len) (c1.ownZ 0 rfl) r1 hr1) ?_
          intro r188 u189
          refine lm_ck (fun h190 => ?_)
          refine lm_append 28 3 (el := 54) (sz := 2) (bytes := 16) (enc := encAuctionUnit) (l2 := r188) (by kernel_rfl) (by kernel_rfl) encAuctionUnit_len encAuctionUnit_one rfl rfl rfl (fun w1 c1 => (c1.ownZ 0 rfl)) (fun w1 c1 => (c1.own 0 rfl encAuctionUnit_len)) h190 ?_ (by kernel_rfl)
          intro A191 n192 k193
          refine lm_val 5 (by kernel_rfl) (fun w1 c1 => (op_assign (v := .slice _ _ _) rfl)) ?_
          refine lm_nil ?_
          refine xm_inN ?_
          exact xm_lnext (A191, n192, k193) (sub_cons (by kernel_rfl) rfl (sub_cons (by kernel_rfl) rfl (sub_cons (by kernel_rfl) rfl (sub_cons (by kernel_rfl) rfl (sub_cons (by kernel_rfl) rfl sub_nil))))) (hsub [3] (by kernel_rfl) rfl)
        · skip
          refine cm_skip ?_
          refine xm_inN ?_
          exact xm_lnext (u164.1, u164.2.1, u164.2.2) (sub_cons (by kernel_rfl) rfl (sub_cons (by kernel_rfl) rfl (sub_cons (by kernel_rfl) rfl (sub_cons (by kernel_rfl) rfl (sub_cons (by kernel_rfl) rfl sub_nil))))) (hsub [1] (by kernel_rfl) rfl)
      intro s179 u180
      refine cm_region ?_
      refine lm_ck (fun h194 => ?_)
      refine lm_val 29 (by kernel_rfl) (fun w1 c1 => (op_add rfl rfl h194)) ?_
      refine lm_val 10 (by kernel_rfl) (fun w1 c1 => (op_move (v := .int .i64 _) rfl)) ?_
      refine lm_nil ?_
      exact xm_lnext (u180.1, u180.2.1, u180.2.2) (sub_cons (by kernel_rfl) rfl (sub_cons (by kernel_rfl) rfl (sub_cons (by kernel_rfl) rfl (sub_cons (by kernel_rfl) rfl (sub_cons (by kernel_rfl) rfl sub_nil))))) (hsub [0] (by kernel_rfl) rfl)
    · skip
      refine cm_exit ?_
      refine xm_thenE ?_
      refine xm_lexit ?_
      refine xm_here ?_
      exact xm_lnext (u164.1, u164.2.1, u164.2.2) (sub_cons (by kernel_rfl) rfl sub_nil) (hsub [0] (by kernel_rfl) rfl)
  intro s97 u98
  refine cm_seq ?_
  refine cm_region ?_
  refine lm_val 30 (by kernel_rfl) (fun w1 c1 => (op_move (v := .slice _ _ _) rfl)) ?_
  refine lm_ck (fun h195 => ?_)
  refine lm_callE 31 (by kernel_rfl) (fun w1 => op_call (by kernel_rfl)) (fun w1 c1 => unitCmp_sort N 0 h195.1 rfl h195.2 c1) ?_
  refine lm_nil ?_
  refine xm_next ?_
  refine cm_seq ?_
  refine cm_region ?_
  refine lm_val 32 (by kernel_rfl) (fun w1 c1 => (op_move (v := .slice _ _ _) rfl)) ?_
  refine lm_val 4 (by kernel_rfl) (fun w1 c1 => (op_assign (v := .slice _ _ _) rfl)) ?_
  refine lm_nil ?_
  refine xm_next ?_
  refine cm_ret ?_
  exact xm_retT rfl (by kernel_rfl) (show _ = Value.slice _ _ _ from rfl) fun w1 c1 => ⟨(u98.1, u98.2.1, u98.2.2), rfl, hsub [0] (by kernel_rfl) rfl w1 c1⟩
/-- auction.Run -/
def m_auction_Run (N : Nat) (p0 : (List ApiBid)) (p1 : Int) (p2 : Int) : Option (ApiOutcome × Int) :=
  Option.bind (m_auction_Check N p0) fun r2 => (if r2 ≠ 0 then
    some (((ApiOutcome.mk ([] : List Int) 0), r2))
  else
    (if ((((decide (p1 < 0)) || (decide (1000 < p1))) || (decide (p2 < 0))) || (decide (1000000 < p2))) = true then
      some (((ApiOutcome.mk ([] : List Int) 0), (1 : Int)))
    else
      Option.bind (m_auction_asked N p0 p2) fun r9 => ck ((0 : Int) ≤ (List.length p0 : Int) ∧ Int.toNat (List.length p0 : Int) * 8 ≤ 140737488355328) (
        (andThen
          (ck ((0 : Int) ≤ (min p1 (List.length r9 : Int)) ∧ (min p1 (List.length r9 : Int)) ≤ (List.length r9 : Int)) (
            (loopM (fun (s66 : (List Int) × Int) =>
              (if s66.2 < (List.length (List.take (Int.toNat (min p1 (List.length r9 : Int))) r9) : Int) then
                ck ((0 : Int) ≤ s66.2 ∧ s66.2 < (List.length (List.take (Int.toNat (min p1 (List.length r9 : Int))) r9) : Int)) (
                  ck ((0 : Int) ≤ (ix (List.take (Int.toNat (min p1 (List.length r9 : Int))) r9) s66.2).bid_ ∧ (ix (List.take (Int.toNat (min p1 (List.length r9 : Int))) r9) s66.2).bid_ < (List.length s66.1 : Int)) (
                    ck (I64 ((ix s66.1 ((ix (List.take (Int.toNat (min p1 (List.length r9 : Int))) r9) s66.2).bid_)) + (1 : Int))) (
                      ck ((0 : Int) ≤ (ix (List.take (Int.toNat (min p1 (List.length r9 : Int))) r9) s66.2).bid_ ∧ (ix (List.take (Int.toNat (min p1 (List.length r9 : Int))) r9) s66.2).bid_ < (List.length s66.1 : Int)) (
                        ck (I64 (s66.2 + (1 : Int))) (
                          some (.next ((List.set s66.1 (Int.toNat ((ix (List.take (Int.toNat (min p1 (List.length r9 : Int))) r9) s66.2).bid_)) ((ix s66.1 ((ix (List.take (Int.toNat (min p1 (List.length r9 : Int))) r9) s66.2).bid_)) + (1 : Int))), (s66.2 + (1 : Int)))))))))
              else
                some (.done (.next s66.1)))) N ((List.replicate (Int.toNat (List.length p0 : Int)) (0 : Int)), (0 : Int)))))
        fun (s45 : (List Int)) =>
          (andThen
            (if (min p1 (List.length r9 : Int)) < (List.length r9 : Int) then
              ck ((0 : Int) ≤ (min p1 (List.length r9 : Int)) ∧ (min p1 (List.length r9 : Int)) < (List.length r9 : Int)) (
                some (.next ((ix r9 (min p1 (List.length r9 : Int))).price_)))
            else
              some (.next p2))
          fun (s77 : Int) =>
            some (((ApiOutcome.mk s45 s77), (0 : Int))))))))
set_option maxRecDepth 20000 in
theorem m_auction_Run_ok (N : Nat) (w0 : World) (p0 : (List ApiBid)) (p1 : Int) (p2 : Int) (A_p0 : Option Addr) (n_p0 c_p0 : Nat) (hr_p0 : RdE w0 3 encApiBid A_p0 p0) (hz_p0 : SW A_p0 n_p0 c_p0 (List.length p0)) (r : ApiOutcome × Int) (hr : m_auction_Run N p0 p1 p2 = some r) :
    Calls Try.prog 14 [.slice A_p0 n_p0 c_p0, .int .i64 p1, .int .i64 p2].toArray w0 fun x w1 => ∃ u, x = .returned ((fun (r : ApiOutcome × Int) (u : (Option Addr) × Nat × Nat) => .tuple #[.agg #[.slice u.1 u.2.1 u.2.2, .int .i64 r.1.Price], .int .i64 r.2]) r u) ∧ Hs w0 ((fun (r : ApiOutcome × Int) (u : (Option Addr) × Nat × Nat) => [ownE 3 1 encI u.1 u.2.1 u.2.2 r.1.Won]) r u) w1 := by
  refine calls_cm (n := 75) (R := fun r x w1 => ∃ u, x = .returned ((fun (r : ApiOutcome × Int) (u : (Option Addr) × Nat × Nat) => .tuple #[.agg #[.slice u.1 u.2.1 u.2.2, .int .i64 r.1.Price], .int .i64 r.2]) r u) ∧ Hs w0 ((fun (r : ApiOutcome × Int) (u : (Option Addr) × Nat × Nat) => [ownE 3 1 encI u.1 u.2.1 u.2.2 r.1.Won]) r u) w1) Try.func14 rfl rfl (Nat.le_of_ble_eq_true rfl) ?_ r hr
  unfold m_auction_Run
  refine cm_seq ?_
  refine cm_region ?_
  refine lm_alloc 6 [.slice none 0 0, .int .i64 0] (v := .agg #[.slice none 0 0, .int .i64 0]) (by kernel_rfl) (by kernel_rfl) rfl ?_
  intro b1
  refine lm_val 7 (by kernel_rfl) (fun w1 c1 => (op_assign (v := .int .i64 _) rfl)) ?_
  refine lm_nil ?_
  refine xm_next ?_
  refine cm_seq ?_
  refine cm_seq ?_
  refine cm_region ?_
  refine lm_val 14 (by kernel_rfl) (fun w1 c1 => (op_move (v := .slice _ _ _) rfl)) ?_
  refine lm_call 15 (V := (fun (r : Int) (_u : Unit) => .int .i64 r)) (HR := (fun (_r : Int) (_u : Unit) => [])) (by kernel_rfl) (fun w1 => op_call (by kernel_rfl)) (fun r1 hr1 w1 c1 => m_auction_Check_ok N w1 p0 A_p0 n_p0 c_p0 (hr_p0.old c1) hz_p0 r1 hr1) ?_
  intro r2 u3
  refine lm_val 8 (by kernel_rfl) (fun w1 c1 => (op_assign (v := .int .i64 _) rfl)) ?_
  refine lm_nil ?_
  refine xm_next ?_
  refine cm_seq ?_
  refine cm_region ?_
  refine lm_val 16 (by kernel_rfl) (fun w1 c1 => (op_move (v := .int .i64 _) rfl)) ?_
  refine lm_val 17 (by kernel_rfl) (fun w1 c1 => (op_neq rfl rfl)) ?_
  refine lm_nil ?_
  refine xm_next ?_
  refine cm_cond (by kernel_rfl) rfl (fun h4 => ?_) (fun h4 => ?_)
  · skip
    refine cm_seq ?_
    refine cm_region ?_
    refine lm_val 18 (by kernel_rfl) (fun w1 c1 => (op_build (z := [.slice none 0 0, .int .i64 0]) (tab := [(0, 1), (1, 1)]) (cs := [.slice _ _ _, .int .i64 _]) [] (by kernel_rfl) (by kernel_rfl) fillOk_nil rfl)) ?_
    refine lm_val 19 (by kernel_rfl) (fun w1 c1 => (op_move (v := .int .i64 _) rfl)) ?_
    refine lm_storeA 0 [.slice _ _ _, .int .i64 _] [_, _] (H' := [blkE _ _ [_, _]]) (by kernel_rfl) rfl rfl (by kernel_rfl) rfl rfl (by kernel_rfl) rfl rfl ?_
    refine lm_val 7 (by kernel_rfl) (fun w1 c1 => (op_assign (v := .int .i64 _) rfl)) ?_
    refine lm_nil ?_
    refine xm_next ?_
    refine cm_ret ?_
    refine xm_thenR ?_
    refine xm_nilrow 3 1 encI ?_
    exact xm_retCT rfl (by kernel_rfl) (show _ = Value.pointer (some ⟨_, 0, none⟩) from rfl) (by kernel_rfl) (fun w1 c1 => c1.cells 1 (ds := [.slice _ _ _, .int .i64 _]) rfl rfl) (by kernel_rfl) (show _ = Value.int .i64 _ from rfl) fun w1 c1 => ⟨(none, 0, 0), rfl, hsub [0] (by kernel_rfl) rfl w1 c1⟩
  · skip
    refine cm_skip ?_
    refine xm_next ?_
    refine cm_seq ?_
    refine cm_seq ?_
    refine cm_cutE [(33, .bool ((((decide (p1 < 0)) || (decide (1000 < p1))) || (decide (p2 < 0))) || (decide (1000000 < p2))))] ?_ ?_
    · skip
      refine wq_val 20 (by kernel_rfl) (fun w1 c1 => (op_move (v := .int .i64 _) rfl)) ?_
      refine wq_dec 21 (by kernel_rfl) (fun w1 c1 => (op_lss rfl rfl)) (fun h5 => ?_) (fun h5 => ?_)
      · skip
        refine wq_val 22 (by kernel_rfl) (fun w1 c1 => (op_move (v := .bool true) rfl)) ?_
        refine wq_skip 23 (by kernel_rfl) ?_
        refine wq_skip 24 (by kernel_rfl) ?_
        refine wq_val 25 (by kernel_rfl) (fun w1 c1 => (op_pick_t (v := .bool true) rfl rfl)) ?_
        refine wq_val 26 (by kernel_rfl) (fun w1 c1 => (op_move (v := .bool true) rfl)) ?_
        refine wq_skip 27 (by kernel_rfl) ?_
        refine wq_skip 28 (by kernel_rfl) ?_
        refine wq_val 29 (by kernel_rfl) (fun w1 c1 => (op_pick_t (v := .bool true) rfl rfl)) ?_
        refine wq_val 30 (by kernel_rfl) (fun w1 c1 => (op_move (v := .bool true) rfl)) ?_
        refine wq_skip 31 (by kernel_rfl) ?_
        refine wq_skip 32 (by kernel_rfl) ?_
        refine wq_val 33 (by kernel_rfl) (fun w1 c1 => (op_pick_t (v := .bool true) rfl rfl)) ?_
        exact leaf_q (sub_out 14 _ rfl (by kernel_rfl) ⟨(congrArg Value.bool (by rw [decide_eq_true h5] <;> rfl)), trivial⟩)
      · skip
        refine wq_val 22 (by kernel_rfl) (fun w1 c1 => (op_move (v := .bool false) rfl)) ?_
        refine wq_val 23 (by kernel_rfl) (fun w1 c1 => (op_move (v := .int .i64 _) rfl)) ?_
        refine wq_dec 24 (by kernel_rfl) (fun w1 c1 => (op_gtr rfl rfl)) (fun h6 => ?_) (fun h6 => ?_)
        · skip
          refine wq_val 25 (by kernel_rfl) (fun w1 c1 => (op_pick_f (v := .bool true) rfl rfl)) ?_
          refine wq_val 26 (by kernel_rfl) (fun w1 c1 => (op_move (v := .bool true) rfl)) ?_
          refine wq_skip 27 (by kernel_rfl) ?_
          refine wq_skip 28 (by kernel_rfl) ?_
          refine wq_val 29 (by kernel_rfl) (fun w1 c1 => (op_pick_t (v := .bool true) rfl rfl)) ?_
          refine wq_val 30 (by kernel_rfl) (fun w1 c1 => (op_move (v := .bool true) rfl)) ?_
          refine wq_skip 31 (by kernel_rfl) ?_
          refine wq_skip 32 (by kernel_rfl) ?_
          refine wq_val 33 (by kernel_rfl) (fun w1 c1 => (op_pick_t (v := .bool true) rfl rfl)) ?_
          exact leaf_q (sub_out 14 _ rfl (by kernel_rfl) ⟨(congrArg Value.bool (by rw [decide_eq_false h5, decide_eq_true h6] <;> rfl)), trivial⟩)
        · skip
          refine wq_val 25 (by kernel_rfl) (fun w1 c1 => (op_pick_f (v := .bool false) rfl rfl)) ?_
          refine wq_val 26 (by kernel_rfl) (fun w1 c1 => (op_move (v := .bool false) rfl)) ?_
          refine wq_val 27 (by kernel_rfl) (fun w1 c1 => (op_move (v := .int .i64 _) rfl)) ?_
          refine wq_dec 28 (by kernel_rfl) (fun w1 c1 => (op_lss rfl rfl)) (fun h7 => ?_) (fun h7 => ?_)
          · skip
            refine wq_val 29 (by kernel_rfl) (fun w1 c1 => (op_pick_f (v := .bool true) rfl rfl)) ?_
            refine wq_val 30 (by kernel_rfl) (fun w1 c1 => (op_move (v := .bool true) rfl)) ?_
            refine wq_skip 31 (by kernel_rfl) ?_
            refine wq_skip 32 (by kernel_rfl) ?_
            refine wq_val 33 (by kernel_rfl) (fun w1 c1 => (op_pick_t (v := .bool true) rfl rfl)) ?_
            exact leaf_q (sub_out 14 _ rfl (by kernel_rfl) ⟨(congrArg Value.bool (by rw [decide_eq_false h5, decide_eq_false h6, decide_eq_true h7] <;> rfl)), trivial⟩)
          · skip
            refine wq_val 29 (by kernel_rfl) (fun w1 c1 => (op_pick_f (v := .bool false) rfl rfl)) ?_
            refine wq_val 30 (by kernel_rfl) (fun w1 c1 => (op_move (v := .bool false) rfl)) ?_
            refine wq_val 31 (by kernel_rfl) (fun w1 c1 => (op_move (v := .int .i64 _) rfl)) ?_
            refine wq_val 32 (by kernel_rfl) (fun w1 c1 => (op_gtr rfl rfl)) ?_
            refine wq_val 33 (by kernel_rfl) (fun w1 c1 => (op_pick_f (v := .bool _) rfl rfl)) ?_
            exact leaf_q (sub_out 14 _ rfl (by kernel_rfl) ⟨(congrArg Value.bool (by rw [decide_eq_false h5, decide_eq_false h6, decide_eq_false h7] <;> rfl)), trivial⟩)
    refine xm_next ?_
    refine cm_condB (by kernel_rfl) rfl (fun h8 => ?_) (fun h8 => ?_)
    · skip
      refine cm_seq ?_
      refine cm_region ?_
      refine lm_val 34 (by kernel_rfl) (fun w1 c1 => (op_build (z := [.slice none 0 0, .int .i64 0]) (tab := [(0, 1), (1, 1)]) (cs := [.slice _ _ _, .int .i64 _]) [] (by kernel_rfl) (by kernel_rfl) fillOk_nil rfl)) ?_
      refine lm_storeA 0 [.slice _ _ _, .int .i64 _] [_, _] (H' := [blkE _ _ [_, _]]) (by kernel_rfl) rfl rfl (by kernel_rfl) rfl rfl (by kernel_rfl) rfl rfl ?_
      refine lm_val 7 (by kernel_rfl) (fun w1 c1 => (op_assign (v := .int .i64 _) rfl)) ?_
      refine lm_nil ?_
      refine xm_next ?_
      refine cm_ret ?_
      refine xm_thenR ?_
      refine xm_nilrow 3 1 encI ?_
      exact xm_retCT rfl (by kernel_rfl) (show _ = Value.pointer (some ⟨_, 0, none⟩) from rfl) (by kernel_rfl) (fun w1 c1 => c1.cells 1 (ds := [.slice _ _ _, .int .i64 _]) rfl rfl) (by kernel_rfl) (show _ = Value.int .i64 _ from rfl) fun w1 c1 => ⟨(none, 0, 0), rfl, hsub [0] (by kernel_rfl) rfl w1 c1⟩
    · skip
      refine cm_skip ?_
      refine xm_next ?_
      refine cm_seq ?_
      refine cm_region ?_
      refine lm_val 35 (by kernel_rfl) (fun w1 c1 => (op_move (v := .slice _ _ _) rfl)) ?_
      refine lm_val 36 (by kernel_rfl) (fun w1 c1 => (op_move (v := .int .i64 _) rfl)) ?_
      refine lm_call 37 (V := (fun (_r : (List AuctionUnit)) (u : (Option Addr) × Nat × Nat) => .slice u.1 u.2.1 u.2.2)) (HR := (fun (r : (List AuctionUnit)) (u : (Option Addr) × Nat × Nat) => [ownE 54 2 encAuctionUnit u.1 u.2.1 u.2.2 r])) (by kernel_rfl) (fun w1 => op_call (by kernel_rfl)) (fun r1 hr1 w1 c1 => m_auction_asked_ok N w1 p0 p2 A_p0 n_p0 c_p0 (hr_p0.old c1) hz_p0 r1 hr1) ?_
      intro r9 u10
      refine lm_val 9 (by kernel_rfl) (fun w1 c1 => (op_assign (v := .slice _ _ _) rfl)) ?_
      refine lm_nil ?_
      refine xm_next ?_
      refine cm_seq ?_
      refine cm_region ?_
      refine lm_val 38 (by kernel_rfl) (fun w1 c1 => (op_move (v := .int .i64 _) rfl)) ?_
      refine lm_val 39 (by kernel_rfl) (fun w1 c1 => (op_move (v := .slice _ _ _) rfl)) ?_
      refine lm_val 40 (by kernel_rfl) (fun w1 c1 => (op_lenN rfl (by kernel_rfl) (c1.ownZ 0 rfl).2.2)) ?_
      refine lm_val 41 (by kernel_rfl) (fun w1 c1 => (op_min rfl rfl)) ?_
      refine lm_val 10 (by kernel_rfl) (fun w1 c1 => (op_assign (v := .int .i64 _) rfl)) ?_
      refine lm_nil ?_
      refine xm_next ?_
      refine cm_seq ?_
      refine cm_region ?_
      refine lm_val 42 (by kernel_rfl) (fun w1 c1 => (op_move (v := .slice _ _ _) rfl)) ?_
      refine lm_val 43 (by kernel_rfl) (fun w1 c1 => (op_lenN rfl (by kernel_rfl) hz_p0.2.2)) ?_
      refine lm_ck (fun h11 => ?_)
      refine lm_make 44 (el := 3) (sz := 1) (bytes := 8) (enc := encI) (0 : Int) (zv := .int .i64 0) (by kernel_rfl) (by kernel_rfl) (by kernel_rfl) rfl encI_len rfl rfl h11.1 h11.2 (by kernel_rfl) ?_
      intro A12 n13 k14 h15
      refine lm_val 45 (by kernel_rfl) (fun w1 c1 => (op_move (v := .int .i64 _) rfl)) ?_
      refine lm_val 46 (by kernel_rfl) (fun w1 c1 => (op_build (z := [.slice none 0 0, .int .i64 0]) (tab := [(0, 1), (1, 1)]) (cs := [.slice _ _ _, .int .i64 _]) [(0, [.slice _ _ _]), (1, [.int .i64 _])] (by kernel_rfl) (by kernel_rfl) (fillOk_cons rfl rfl rfl (fillOk_cons rfl rfl rfl fillOk_nil)) rfl)) ?_
      refine lm_alloc 11 [.slice none 0 0, .int .i64 0] (v := .agg #[.slice none 0 0, .int .i64 0]) (by kernel_rfl) (by kernel_rfl) rfl ?_
      intro b16
      refine lm_storeA 0 [.slice _ _ _, .int .i64 _] [_, _] (H' := [blkE _ _ [_, _], _, _, _]) (by kernel_rfl) rfl rfl (by kernel_rfl) rfl rfl (by kernel_rfl) rfl rfl ?_
      refine lm_nil ?_
      refine xm_next ?_
      refine cm_join (σ := (List Int)) (ξ := (Option Addr) × Nat × Nat) (fun s45 u46 => [(6, .pointer (some ⟨b1, 0, none⟩)), (9, .slice u10.1 u10.2.1 u10.2.2), (10, .int .i64 (min p1 (List.length r9 : Int))), (11, .pointer (some ⟨b16, 0, none⟩))]) (fun s45 u46 => [blkE b1 29 [.slice none 0 0, .int .i64 0], ownE 54 2 encAuctionUnit u10.1 u10.2.1 u10.2.2 r9, blkE b16 29 [.slice u46.1 u46.2.1 u46.2.2, .int .i64 p2], ownE 3 1 encI u46.1 u46.2.1 u46.2.2 s45]) ?_ ?_
      · skip
        refine cm_seq ?_
        refine cm_region ?_
        refine lm_val 47 (by kernel_rfl) (fun w1 c1 => (op_move (v := .slice _ _ _) rfl)) ?_
        refine lm_val 48 (by kernel_rfl) (fun w1 c1 => (op_move (v := .int .i64 _) rfl)) ?_
        refine lm_ck (fun h47 => ?_)
        refine lm_val 49 (by kernel_rfl) (fun w1 c1 => (op_sliceTo2 (l := r9) rfl rfl (by kernel_rfl) (by kernel_rfl) (c1.ownZ 2 rfl) h47.1 h47.2)) ?_
        refine lm_val 50 (by kernel_rfl) (fun w1 c1 => (op_lenN rfl (by kernel_rfl) ((c1.ownZ 2 rfl).take h47.1 h47.2).2.2)) ?_
        refine lm_val 51 (by kernel_rfl) (fun w1 c1 => (op_move (v := .int .i64 _) rfl)) ?_
        refine lm_nil ?_
        refine xm_next ?_
        refine cm_block ?_
        refine cm_loop (σ := (List Int) × Int) (ξ := (Option Addr) × Nat × Nat) (fun s66 u67 => [(6, .pointer (some ⟨b1, 0, none⟩)), (9, .slice u10.1 u10.2.1 u10.2.2), (10, .int .i64 (min p1 (List.length r9 : Int))), (11, .pointer (some ⟨b16, 0, none⟩)), (49, .slice u10.1 (Int.toNat (min p1 (List.length r9 : Int))) u10.2.2), (50, .int .i64 (List.length (List.take (Int.toNat (min p1 (List.length r9 : Int))) r9) : Int)), (51, .int .i64 s66.2)]) (fun s66 u67 => [blkE b1 29 [.slice none 0 0, .int .i64 0], ownE 54 2 encAuctionUnit u10.1 u10.2.1 u10.2.2 r9, blkE b16 29 [.slice u67.1 u67.2.1 u67.2.2, .int .i64 p2], ownE 3 1 encI u67.1 u67.2.1 u67.2.2 s66.1]) (A12, n13, k14) ?_ ?_ ?_
        · exact (sub_cons (by kernel_rfl) rfl (sub_cons (by kernel_rfl) rfl (sub_cons (by kernel_rfl) rfl (sub_cons (by kernel_rfl) rfl (sub_cons (by kernel_rfl) rfl (sub_cons (by kernel_rfl) rfl (sub_cons (by kernel_rfl) rfl sub_nil)))))))
        · exact hsub [3, 2, 0, 1] (by kernel_rfl) rfl
        intro s66 u67
        refine cm_seq ?_
        refine cm_region ?_
        refine lm_val 52 (by kernel_rfl) (fun w1 c1 => (op_lss rfl rfl)) ?_
        refine lm_nil ?_
        refine xm_next ?_
        refine cm_seq ?_
        refine cm_cond (by kernel_rfl) rfl (fun h68 => ?_) (fun h68 => ?_)
        · skip
          refine cm_skip ?_
          refine xm_next ?_
          refine cm_seq ?_
          refine cm_block ?_
          refine cm_seq ?_
          refine cm_region ?_
          refine lm_ck (fun h69 => ?_)
          refine lm_val 53 (by kernel_rfl) (fun w1 c1 => (op_indexA 2 rfl rfl (by kernel_rfl) (((c1.own 1 rfl encAuctionUnit_len).take h47.1 h47.2).addr h69.1 h69.2) ((c1.ownZ 1 rfl).take h47.1 h47.2).2.2 h69.1 h69.2)) ?_
          refine lm_val 54 (by kernel_rfl) (fun w1 c1 => (op_loadR [.int .i64 ((ix (List.take (Int.toNat (min p1 (List.length r9 : Int))) r9) s66.2).price_), .int .i64 ((ix (List.take (Int.toNat (min p1 (List.length r9 : Int))) r9) s66.2).bid_)] rfl (by kernel_rfl) (((c1.own 1 rfl encAuctionUnit_len).take h47.1 h47.2).row h69.1 h69.2))) ?_
          refine lm_alloc 13 [.int .i64 0, .int .i64 0] (v := .agg #[.int .i64 0, .int .i64 0]) (by kernel_rfl) (by kernel_rfl) rfl ?_
          intro b70
          refine lm_storeA 0 [.int .i64 _, .int .i64 _] [_, _] (H' := [blkE _ _ [_, _], _, _, _, _]) (by kernel_rfl) rfl rfl (by kernel_rfl) rfl rfl (by kernel_rfl) rfl rfl ?_
          refine lm_nil ?_
          refine xm_next ?_
          refine cm_region ?_
          refine lm_val 55 (by kernel_rfl) (fun w1 c1 => (op_fieldL (m := 0) (k := 0) rfl (by kernel_rfl) rfl)) ?_
          refine lm_val 56 (by kernel_rfl) (fun w1 c1 => (op_load rfl (by kernel_rfl) (c1.cell 3 (u := .slice _ _ _) rfl rfl))) ?_
          refine lm_val 57 (by kernel_rfl) (fun w1 c1 => (op_fieldL (m := 1) (k := 1) rfl (by kernel_rfl) rfl)) ?_
          refine lm_val 58 (by kernel_rfl) (fun w1 c1 => (op_load rfl (by kernel_rfl) (c1.cell 0 (u := .int .i64 _) rfl rfl))) ?_
          refine lm_ck (fun h71 => ?_)
          refine lm_val 59 (by kernel_rfl) (fun w1 c1 => (op_indexA 1 rfl rfl (by kernel_rfl) ((c1.own 4 rfl encI_len).addr h71.1 h71.2) (c1.ownZ 4 rfl).2.2 h71.1 h71.2)) ?_
          refine lm_val 60 (by kernel_rfl) (fun w1 c1 => (op_load (v := .int .i64 (ix s66.1 ((ix (List.take (Int.toNat (min p1 (List.length r9 : Int))) r9) s66.2).bid_))) rfl (by kernel_rfl) ((c1.own 4 rfl encI_len).cell0 h71.1 h71.2 rfl))) ?_
          refine lm_ck (fun h72 => ?_)
          refine lm_val 61 (by kernel_rfl) (fun w1 c1 => (op_add rfl rfl h72)) ?_
          refine lm_ck (fun h73 => ?_)
          refine lm_val 62 (by kernel_rfl) (fun w1 c1 => (op_indexA 1 rfl rfl (by kernel_rfl) ((c1.own 4 rfl encI_len).addr h73.1 h73.2) (c1.ownZ 4 rfl).2.2 h73.1 h73.2)) ?_
          refine lm_storeIx 4 ((ix s66.1 ((ix (List.take (Int.toNat (min p1 (List.length r9 : Int))) r9) s66.2).bid_)) + (1 : Int)) 0 [.int .i64 _] (by kernel_rfl) rfl rfl (by kernel_rfl) rfl rfl rfl encI_len encI_one h73.1 h73.2 (by kernel_rfl) rfl ?_
          refine lm_nil ?_
          refine xm_inN ?_
          refine xm_next ?_
          refine cm_region ?_
          refine lm_ck (fun h74 => ?_)
          refine lm_val 63 (by kernel_rfl) (fun w1 c1 => (op_add rfl rfl h74)) ?_
          refine lm_val 51 (by kernel_rfl) (fun w1 c1 => (op_move (v := .int .i64 _) rfl)) ?_
          refine lm_nil ?_
          exact xm_lnext (u67.1, u67.2.1, u67.2.2) (sub_cons (by kernel_rfl) rfl (sub_cons (by kernel_rfl) rfl (sub_cons (by kernel_rfl) rfl (sub_cons (by kernel_rfl) rfl (sub_cons (by kernel_rfl) rfl (sub_cons (by kernel_rfl) rfl (sub_cons (by kernel_rfl) rfl sub_nil))))))) (hsub [1, 2, 3, 4] (by kernel_rfl) rfl)
        · skip
          refine cm_exit ?_
          refine xm_thenE ?_
          refine xm_lexit ?_
          refine xm_here ?_
          exact xm_lnext (u67.1, u67.2.1, u67.2.2) (sub_cons (by kernel_rfl) rfl (sub_cons (by kernel_rfl) rfl (sub_cons (by kernel_rfl) rfl (sub_cons (by kernel_rfl) rfl sub_nil)))) (hsub [0, 1, 2, 3] (by kernel_rfl) rfl)
      intro s45 u46
      refine cm_join (σ := Int) (ξ := Unit) (fun s77 u78 => [(6, .pointer (some ⟨b1, 0, none⟩)), (11, .pointer (some ⟨b16, 0, none⟩))]) (fun s77 u78 => [blkE b1 29 [.slice none 0 0, .int .i64 0], blkE b16 29 [.slice u46.1 u46.2.1 u46.2.2, .int .i64 s77], ownE 3 1 encI u46.1 u46.2.1 u46.2.2 s45]) ?_ ?_
      · skip
        refine cm_seq ?_
        refine cm_region ?_
        refine lm_val 64 (by kernel_rfl) (fun w1 c1 => (op_move (v := .int .i64 _) rfl)) ?_
        refine lm_val 65 (by kernel_rfl) (fun w1 c1 => (op_move (v := .slice _ _ _) rfl)) ?_
        refine lm_val 66 (by kernel_rfl) (fun w1 c1 => (op_lenN rfl (by kernel_rfl) (c1.ownZ 1 rfl).2.2)) ?_
        refine lm_val 67 (by kernel_rfl) (fun w1 c1 => (op_lss rfl rfl)) ?_
        refine lm_nil ?_
        refine xm_next ?_
        refine cm_cond (by kernel_rfl) rfl (fun h79 => ?_) (fun h79 => ?_)
        · skip
          refine cm_region ?_
          refine lm_val 68 (by kernel_rfl) (fun w1 c1 => (op_move (v := .slice _ _ _) rfl)) ?_
          refine lm_val 69 (by kernel_rfl) (fun w1 c1 => (op_move (v := .int .i64 _) rfl)) ?_
          refine lm_ck (fun h80 => ?_)
          refine lm_val 70 (by kernel_rfl) (fun w1 c1 => (op_indexA 2 rfl rfl (by kernel_rfl) ((c1.own 1 rfl encAuctionUnit_len).addr h80.1 h80.2) (c1.ownZ 1 rfl).2.2 h80.1 h80.2)) ?_
          refine lm_val 71 (by kernel_rfl) (fun w1 c1 => (op_field0 rfl (by kernel_rfl))) ?_
          refine lm_val 72 (by kernel_rfl) (fun w1 c1 => (op_load (v := .int .i64 ((ix r9 (min p1 (List.length r9 : Int))).price_)) rfl (by kernel_rfl) ((c1.own 1 rfl encAuctionUnit_len).cell0 h80.1 h80.2 rfl))) ?_
          refine lm_val 73 (by kernel_rfl) (fun w1 c1 => (op_fieldL (m := 1) (k := 1) rfl (by kernel_rfl) rfl)) ?_
          refine lm_store1 2 (v := .int .i64 _) (H' := [_, _, blkE _ _ [_, _], _]) (by kernel_rfl) rfl rfl (by kernel_rfl) rfl rfl (by kernel_rfl) rfl ?_
          refine lm_nil ?_
          exact xm_lnext () (sub_cons (by kernel_rfl) rfl (sub_cons (by kernel_rfl) rfl sub_nil)) (hsub [0, 2, 3] (by kernel_rfl) rfl)
        · skip
          refine cm_skip ?_
          exact xm_lnext () (sub_cons (by kernel_rfl) rfl (sub_cons (by kernel_rfl) rfl sub_nil)) (hsub [0, 2, 3] (by kernel_rfl) rfl)
      intro s77 u78
      refine cm_seq ?_
      refine cm_region ?_
      refine lm_val 74 (by kernel_rfl) (fun w1 c1 => (op_loadR [.slice _ _ _, .int .i64 _] rfl (by kernel_rfl) (c1.cells 1 rfl rfl))) ?_
      refine lm_storeA 0 [.slice _ _ _, .int .i64 _] [_, _] (H' := [blkE _ _ [_, _], _, _]) (by kernel_rfl) rfl rfl (by kernel_rfl) rfl rfl (by kernel_rfl) rfl rfl ?_
      refine lm_val 7 (by kernel_rfl) (fun w1 c1 => (op_assign (v := .int .i64 _) rfl)) ?_
      refine lm_nil ?_
      refine xm_next ?_
      refine cm_ret ?_
      exact xm_retCT rfl (by kernel_rfl) (show _ = Value.pointer (some ⟨_, 0, none⟩) from rfl) (by kernel_rfl) (fun w1 c1 => c1.cells 0 (ds := [.slice _ _ _, .int .i64 _]) rfl rfl) (by kernel_rfl) (show _ = Value.int .i64 _ from rfl) fun w1 c1 => ⟨(u46.1, u46.2.1, u46.2.2), rfl, hsub [2] (by kernel_rfl) rfl w1 c1⟩
/-- auction.Holds -/
def m_auction_Holds (N : Nat) (p0 : (List ApiBid)) (p1 : Int) (p2 : Int) (p3 : ApiOutcome) : Option (Bool) :=
  Option.bind (m_auction_Run N p0 p1 p2) fun r2 => callIf (((decide (r2.2 = 0)) && (decide (r2.1.Price = p3.Price))) = true) (m_slices_Equal N r2.1.Won p3.Won) fun r5 => some ((((decide (r2.2 = 0)) && (decide (r2.1.Price = p3.Price))) && r5))
set_option maxRecDepth 20000 in
theorem m_auction_Holds_ok (N : Nat) (w0 : World) (p0 : (List ApiBid)) (p1 : Int) (p2 : Int) (p3 : ApiOutcome) (A_p0 : Option Addr) (n_p0 c_p0 : Nat) (A_p31 : Option Addr) (n_p31 c_p31 : Nat) (hr_p0 : RdE w0 3 encApiBid A_p0 p0) (hz_p0 : SW A_p0 n_p0 c_p0 (List.length p0)) (hr_p31 : RdE w0 1 encI A_p31 p3.Won) (hz_p31 : SW A_p31 n_p31 c_p31 (List.length p3.Won)) (r : Bool) (hr : m_auction_Holds N p0 p1 p2 p3 = some r) :
    Calls Try.prog 21 [.slice A_p0 n_p0 c_p0, .int .i64 p1, .int .i64 p2, .agg #[.slice A_p31 n_p31 c_p31, .int .i64 p3.Price]].toArray w0 fun x w1 => ∃ u, x = .returned ((fun (r : Bool) (_u : Unit) => .bool r) r u) ∧ Hs w0 ((fun (_r : Bool) (_u : Unit) => []) r u) w1 := by
  refine calls_cm (n := 34) (R := fun r x w1 => ∃ u, x = .returned ((fun (r : Bool) (_u : Unit) => .bool r) r u) ∧ Hs w0 ((fun (_r : Bool) (_u : Unit) => []) r u) w1) Try.func21 rfl rfl (Nat.le_of_ble_eq_true rfl) ?_ r hr
  unfold m_auction_Holds
  refine cm_seq ?_
  refine cm_region ?_
  refine lm_box 7 [.slice _ _ _, .int .i64 _] (by kernel_rfl) rfl ?_
  intro b1
  refine lm_val 8 (by kernel_rfl) (fun w1 c1 => (op_assign (v := .bool false) rfl)) ?_
  refine lm_nil ?_
  refine xm_next ?_
  refine cm_seq ?_
  refine cm_region ?_
  refine lm_val 12 (by kernel_rfl) (fun w1 c1 => (op_move (v := .slice _ _ _) rfl)) ?_
  refine lm_val 13 (by kernel_rfl) (fun w1 c1 => (op_move (v := .int .i64 _) rfl)) ?_
  refine lm_val 14 (by kernel_rfl) (fun w1 c1 => (op_move (v := .int .i64 _) rfl)) ?_
  refine lm_call 15 (V := (fun (r : ApiOutcome × Int) (u : (Option Addr) × Nat × Nat) => .tuple #[.agg #[.slice u.1 u.2.1 u.2.2, .int .i64 r.1.Price], .int .i64 r.2])) (HR := (fun (r : ApiOutcome × Int) (u : (Option Addr) × Nat × Nat) => [ownE 3 1 encI u.1 u.2.1 u.2.2 r.1.Won])) (by kernel_rfl) (fun w1 => op_call (by kernel_rfl)) (fun r1 hr1 w1 c1 => m_auction_Run_ok N w1 p0 p1 p2 A_p0 n_p0 c_p0 (hr_p0.old c1) hz_p0 r1 hr1) ?_
  intro r2 u3
  refine lm_val 11 (by kernel_rfl) (fun w1 c1 => (op_move (v := .tuple _) rfl)) ?_
  refine lm_val 16 (by kernel_rfl) (fun w1 c1 => (op_extract (v := .agg _) rfl rfl)) ?_
  refine lm_val 17 (by kernel_rfl) (fun w1 c1 => (op_extract (v := .int .i64 _) rfl rfl)) ?_
  refine lm_alloc 9 [.slice none 0 0, .int .i64 0] (v := .agg #[.slice none 0 0, .int .i64 0]) (by kernel_rfl) (by kernel_rfl) rfl ?_
  intro b4
  refine lm_storeA 0 [.slice _ _ _, .int .i64 _] [_, _] (H' := [blkE _ _ [_, _], _, _]) (by kernel_rfl) rfl rfl (by kernel_rfl) rfl rfl (by kernel_rfl) rfl rfl ?_
  refine lm_val 10 (by kernel_rfl) (fun w1 c1 => (op_assign (v := .int .i64 _) rfl)) ?_
  refine lm_nil ?_
  refine xm_next ?_
  refine cm_seq ?_
  refine cm_callIf fun r5 h6 => ?_
  refine cm_cutE [(8, .bool (((decide (r2.2 = 0)) && (decide (r2.1.Price = p3.Price))) && r5))] ?_ ?_
  · skip
    refine wq_val 18 (by kernel_rfl) (fun w1 c1 => (op_move (v := .int .i64 _) rfl)) ?_
    refine wq_dec 19 (by kernel_rfl) (fun w1 c1 => (op_eql rfl rfl)) (fun h7 => ?_) (fun h7 => ?_)
    · skip
      refine wq_val 20 (by kernel_rfl) (fun w1 c1 => (op_move (v := .bool true) rfl)) ?_
      refine wq_val 21 (by kernel_rfl) (fun w1 c1 => (op_fieldL (m := 1) (k := 1) rfl (by kernel_rfl) rfl)) ?_
      refine wq_val 22 (by kernel_rfl) (fun w1 c1 => (op_load rfl (by kernel_rfl) (c1.cell 0 (u := .int .i64 _) rfl rfl))) ?_
      refine wq_val 23 (by kernel_rfl) (fun w1 c1 => (op_fieldL (m := 1) (k := 1) rfl (by kernel_rfl) rfl)) ?_
      refine wq_val 24 (by kernel_rfl) (fun w1 c1 => (op_load rfl (by kernel_rfl) (c1.cell 2 (u := .int .i64 _) rfl rfl))) ?_
      refine wq_dec 25 (by kernel_rfl) (fun w1 c1 => (op_eql rfl rfl)) (fun h8 => ?_) (fun h8 => ?_)
      · skip
        refine wq_val 26 (by kernel_rfl) (fun w1 c1 => (op_pick_t (v := .bool true) rfl rfl)) ?_
        refine wq_val 27 (by kernel_rfl) (fun w1 c1 => (op_move (v := .bool true) rfl)) ?_
        refine wq_val 28 (by kernel_rfl) (fun w1 c1 => (op_fieldL (m := 0) (k := 0) rfl (by kernel_rfl) rfl)) ?_
        refine wq_val 29 (by kernel_rfl) (fun w1 c1 => (op_load rfl (by kernel_rfl) (c1.cell 0 (u := .slice _ _ _) rfl rfl))) ?_
        refine wq_val 30 (by kernel_rfl) (fun w1 c1 => (op_fieldL (m := 0) (k := 0) rfl (by kernel_rfl) rfl)) ?_
        refine wq_val 31 (by kernel_rfl) (fun w1 c1 => (op_load rfl (by kernel_rfl) (c1.cell 2 (u := .slice _ _ _) rfl rfl))) ?_
        refine wq_call 32 (by kernel_rfl) (fun w1 c1 => op_call (by kernel_rfl)) (fun w1 c1 => (m_slices_Equal_ok N w1 r2.1.Won p3.Won u3.1 u3.2.1 u3.2.2 A_p31 n_p31 c_p31 (c1.own 1 rfl encI_len) (c1.ownZ 1 rfl) (hr_p31.old c1) hz_p31 r5 (h6 (by rw [decide_eq_true h7, decide_eq_true h8] <;> rfl))).mono (fun _ _ ⟨_, hx, hu⟩ => ⟨hx, c1.call hu⟩)) ?_
        refine wq_val 33 (by kernel_rfl) (fun w1 c1 => (op_pick_t (v := .bool _) rfl rfl)) ?_
        refine wq_val 8 (by kernel_rfl) (fun w1 c1 => (op_assign (v := .bool _) rfl)) ?_
        exact leaf_q (sub_out 17 _ rfl (by kernel_rfl) ⟨(congrArg Value.bool (by rw [decide_eq_true h7, decide_eq_true h8] <;> rfl)), trivial⟩)
      · skip
        refine wq_val 26 (by kernel_rfl) (fun w1 c1 => (op_pick_t (v := .bool false) rfl rfl)) ?_
        refine wq_val 27 (by kernel_rfl) (fun w1 c1 => (op_move (v := .bool false) rfl)) ?_
        refine wq_skip 28 (by kernel_rfl) ?_
        refine wq_skip 29 (by kernel_rfl) ?_
        refine wq_skip 30 (by kernel_rfl) ?_
        refine wq_skip 31 (by kernel_rfl) ?_
        refine wq_skip 32 (by kernel_rfl) ?_
        refine wq_val 33 (by kernel_rfl) (fun w1 c1 => (op_pick_f (v := .bool false) rfl rfl)) ?_
        refine wq_val 8 (by kernel_rfl) (fun w1 c1 => (op_assign (v := .bool false) rfl)) ?_
        exact leaf_q (sub_out 17 _ rfl (by kernel_rfl) ⟨(congrArg Value.bool (by rw [decide_eq_true h7, decide_eq_false h8] <;> rfl)), trivial⟩)
    · skip
      refine wq_val 20 (by kernel_rfl) (fun w1 c1 => (op_move (v := .bool false) rfl)) ?_
      refine wq_skip 21 (by kernel_rfl) ?_
      refine wq_skip 22 (by kernel_rfl) ?_
      refine wq_skip 23 (by kernel_rfl) ?_
      refine wq_skip 24 (by kernel_rfl) ?_
      refine wq_skip 25 (by kernel_rfl) ?_
      refine wq_val 26 (by kernel_rfl) (fun w1 c1 => (op_pick_f (v := .bool false) rfl rfl)) ?_
      refine wq_val 27 (by kernel_rfl) (fun w1 c1 => (op_move (v := .bool false) rfl)) ?_
      refine wq_skip 28 (by kernel_rfl) ?_
      refine wq_skip 29 (by kernel_rfl) ?_
      refine wq_skip 30 (by kernel_rfl) ?_
      refine wq_skip 31 (by kernel_rfl) ?_
      refine wq_skip 32 (by kernel_rfl) ?_
      refine wq_val 33 (by kernel_rfl) (fun w1 c1 => (op_pick_f (v := .bool false) rfl rfl)) ?_
      refine wq_val 8 (by kernel_rfl) (fun w1 c1 => (op_assign (v := .bool false) rfl)) ?_
      exact leaf_q (sub_out 17 _ rfl (by kernel_rfl) ⟨(congrArg Value.bool (by rw [decide_eq_false h7] <;> rfl)), trivial⟩)
  refine xm_next ?_
  refine cm_ret ?_
  exact xm_retT rfl (by kernel_rfl) (show _ = Value.bool _ from rfl) fun w1 c1 => ⟨(), rfl, hsub [] (by kernel_rfl) rfl w1 c1⟩
end Go.Proofs.Ytimmifkdocjljaa
