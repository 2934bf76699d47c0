/- Models of functions, and that the code follows them. Written by deco.py. -/
import Derived.Test.YtimmifkdocjljaaAuc3
namespace Go.Proofs.Ytimmifkdocjljaa
open Go.RowKit

/-- recyclinglaw51.awake -/
def m_recyclinglaw51_awake (N : Nat)  : Option (Bool) :=
  Option.bind (m_auction_Run N ([(ApiBid.mk 1 10 2), (ApiBid.mk 2 8 1), (ApiBid.mk 3 8 2)]) (3 : Int) (0 : Int)) fun r5 => Option.bind (m_auction_Revenue N r5.1) fun r8 => Option.bind (m_auction_Run N ([(ApiBid.mk 1 10 2), (ApiBid.mk 2 8 1), (ApiBid.mk 3 8 2)]) (6 : Int) (5 : Int)) fun r10 => Option.bind (m_auction_Run N ([(ApiBid.mk 1 10 2), (ApiBid.mk 2 8 1), (ApiBid.mk 3 8 2)]) (3 : Int) (9 : Int)) fun r13 => Option.bind (m_auction_Gain N r13.1 (0 : Int) (10 : Int)) fun r16 => (if r5.2 = 0 then
    Option.bind (m_recyclingref51_Same N r5.1 (ApiOutcome.mk ([(2 : Int), (1 : Int), (0 : Int)]) 8)) fun r23 => (if r23 = true then
      (if r8.2 = 0 then
        (if r8.1 = 24 then
          (if r10.2 = 0 then
            Option.bind (m_recyclingref51_Same N r10.1 (ApiOutcome.mk ([(2 : Int), (1 : Int), (2 : Int)]) 5)) fun r32 => (if r32 = true then
              (if r13.2 = 0 then
                Option.bind (m_recyclingref51_Same N r13.1 (ApiOutcome.mk ([(2 : Int), (0 : Int), (0 : Int)]) 9)) fun r39 => (if r39 = true then
                  (if r16.2 = 0 then
                    (if r16.1 = 2 then
                      Option.bind (m_auction_Check N ([(ApiBid.mk 1 10 2), (ApiBid.mk 2 8 1), (ApiBid.mk 3 8 2)])) fun r43 => (if r43 = 0 then
                        Option.bind (m_auction_Holds N ([(ApiBid.mk 1 10 2), (ApiBid.mk 2 8 1), (ApiBid.mk 3 8 2)]) (3 : Int) (0 : Int) r5.1) fun r46 => (if r46 = true then
                          Option.bind (m_auction_Holds N ([(ApiBid.mk 1 10 2), (ApiBid.mk 2 8 1), (ApiBid.mk 3 8 2)]) (3 : Int) (0 : Int) r10.1) fun r48 => some ((!r48))
                        else
                          some (false))
                      else
                        some (false))
                    else
                      some (false))
                  else
                    some (false))
                else
                  some (false))
              else
                some (false))
            else
              some (false))
          else
            some (false))
        else
          some (false))
      else
        some (false))
    else
      some (false))
  else
    some (false))
set_option maxRecDepth 20000 in
theorem m_recyclinglaw51_awake_ok (N : Nat) (w0 : World)    (r : Bool) (hr : m_recyclinglaw51_awake N  = some r) :
    Calls Try.prog 11 [].toArray w0 fun x w1 => ∃ u, x = .returned ((fun (r : Bool) (_u : Unit) => .bool r) r u) ∧ Hs w0 ((fun (_r : Bool) (_u : Unit) => []) r u) w1 := by
  refine calls_cm (n := 101) (R := fun r x w1 => ∃ u, x = .returned ((fun (r : Bool) (_u : Unit) => .bool r) r u) ∧ Hs w0 ((fun (_r : Bool) (_u : Unit) => []) r u) w1) Try.func11 rfl rfl (Nat.le_of_ble_eq_true rfl) ?_ r hr
  unfold m_recyclinglaw51_awake
  refine cm_seq ?_
  refine cm_region ?_
  refine lm_val 0 (by kernel_rfl) (fun w1 c1 => (op_assign (v := .bool false) rfl)) ?_
  refine lm_nil ?_
  refine xm_next ?_
  refine cm_seq ?_
  refine cm_region ?_
  refine lm_val 12 (by kernel_rfl) (fun w1 c1 => (op_build (z := [.int .i64 0, .int .i64 0, .int .i64 0]) (tab := [(0, 1), (1, 1), (2, 1)]) (cs := [.int .i64 _, .int .i64 _, .int .i64 _]) [(0, [.int .i64 _]), (1, [.int .i64 _]), (2, [.int .i64 _])] (by kernel_rfl) (by kernel_rfl) (fillOk_cons rfl rfl rfl (fillOk_cons rfl rfl rfl (fillOk_cons rfl rfl rfl fillOk_nil))) rfl)) ?_
  refine lm_val 13 (by kernel_rfl) (fun w1 c1 => (op_build (z := [.int .i64 0, .int .i64 0, .int .i64 0]) (tab := [(0, 1), (1, 1), (2, 1)]) (cs := [.int .i64 _, .int .i64 _, .int .i64 _]) [(0, [.int .i64 _]), (1, [.int .i64 _]), (2, [.int .i64 _])] (by kernel_rfl) (by kernel_rfl) (fillOk_cons rfl rfl rfl (fillOk_cons rfl rfl rfl (fillOk_cons rfl rfl rfl fillOk_nil))) rfl)) ?_
  refine lm_val 14 (by kernel_rfl) (fun w1 c1 => (op_build (z := [.int .i64 0, .int .i64 0, .int .i64 0]) (tab := [(0, 1), (1, 1), (2, 1)]) (cs := [.int .i64 _, .int .i64 _, .int .i64 _]) [(0, [.int .i64 _]), (1, [.int .i64 _]), (2, [.int .i64 _])] (by kernel_rfl) (by kernel_rfl) (fillOk_cons rfl rfl rfl (fillOk_cons rfl rfl rfl (fillOk_cons rfl rfl rfl fillOk_nil))) rfl)) ?_
  refine lm_sliceN 15 (el := 44) (sz := 3) (bytes := 24) (enc := encApiBid) [(ApiBid.mk 1 10 2), (ApiBid.mk 2 8 1), (ApiBid.mk 3 8 2)] (by kernel_rfl) (by kernel_rfl) encApiBid_len rfl ⟨rfl, rfl, ⟨rfl, rfl, ⟨rfl, rfl, trivial⟩⟩⟩ (by kernel_rfl) (by kernel_rfl) ?_
  intro A1 n2 k3 h4
  refine lm_val 1 (by kernel_rfl) (fun w1 c1 => (op_assign (v := .slice _ _ _) rfl)) ?_
  refine lm_nil ?_
  refine xm_next ?_
  refine cm_seq ?_
  refine cm_region ?_
  refine lm_val 17 (by kernel_rfl) (fun w1 c1 => (op_move (v := .slice _ _ _) rfl)) ?_
  refine lm_call 18 (V := (fun (r : ApiOutcome × Int) (u : (Option Addr) × Nat × Nat) => .tuple #[.agg #[.slice u.1 u.2.1 u.2.2, .int .i64 r.1.Price], .int .i64 r.2])) (HR := (fun (r : ApiOutcome × Int) (u : (Option Addr) × Nat × Nat) => [ownE 3 1 encI u.1 u.2.1 u.2.2 r.1.Won])) (by kernel_rfl) (fun w1 => op_call (by kernel_rfl)) (fun r1 hr1 w1 c1 => m_auction_Run_ok N w1 ([(ApiBid.mk 1 10 2), (ApiBid.mk 2 8 1), (ApiBid.mk 3 8 2)]) (3 : Int) (0 : Int) A1 n2 k3 (c1.own 0 rfl encApiBid_len) (c1.ownZ 0 rfl) r1 hr1) ?_
  intro r5 u6
  refine lm_val 16 (by kernel_rfl) (fun w1 c1 => (op_move (v := .tuple _) rfl)) ?_
  refine lm_val 19 (by kernel_rfl) (fun w1 c1 => (op_extract (v := .agg _) rfl rfl)) ?_
  refine lm_val 20 (by kernel_rfl) (fun w1 c1 => (op_extract (v := .int .i64 _) rfl rfl)) ?_
  refine lm_alloc 2 [.slice none 0 0, .int .i64 0] (v := .agg #[.slice none 0 0, .int .i64 0]) (by kernel_rfl) (by kernel_rfl) rfl ?_
  intro b7
  refine lm_storeA 0 [.slice _ _ _, .int .i64 _] [_, _] (H' := [blkE _ _ [_, _], _, _]) (by kernel_rfl) rfl rfl (by kernel_rfl) rfl rfl (by kernel_rfl) rfl rfl ?_
  refine lm_val 3 (by kernel_rfl) (fun w1 c1 => (op_assign (v := .int .i64 _) rfl)) ?_
  refine lm_nil ?_
  refine xm_next ?_
  refine cm_seq ?_
  refine cm_region ?_
  refine lm_val 22 (by kernel_rfl) (fun w1 c1 => (op_loadR [.slice _ _ _, .int .i64 _] rfl (by kernel_rfl) (c1.cells 0 rfl rfl))) ?_
  refine lm_call 23 (V := (fun (r : Int × Int) (_u : Unit) => .tuple #[.int .i64 r.1, .int .i64 r.2])) (HR := (fun (_r : Int × Int) (_u : Unit) => [])) (by kernel_rfl) (fun w1 => op_call (by kernel_rfl)) (fun r1 hr1 w1 c1 => m_auction_Revenue_ok N w1 r5.1 u6.1 u6.2.1 u6.2.2 (c1.own 1 rfl encI_len) (c1.ownZ 1 rfl) r1 hr1) ?_
  intro r8 u9
  refine lm_val 21 (by kernel_rfl) (fun w1 c1 => (op_move (v := .tuple _) rfl)) ?_
  refine lm_val 24 (by kernel_rfl) (fun w1 c1 => (op_extract (v := .int .i64 _) rfl rfl)) ?_
  refine lm_val 25 (by kernel_rfl) (fun w1 c1 => (op_extract (v := .int .i64 _) rfl rfl)) ?_
  refine lm_val 4 (by kernel_rfl) (fun w1 c1 => (op_assign (v := .int .i64 _) rfl)) ?_
  refine lm_val 5 (by kernel_rfl) (fun w1 c1 => (op_assign (v := .int .i64 _) rfl)) ?_
  refine lm_nil ?_
  refine xm_next ?_
  refine cm_seq ?_
  refine cm_region ?_
  refine lm_val 27 (by kernel_rfl) (fun w1 c1 => (op_move (v := .slice _ _ _) rfl)) ?_
  refine lm_call 28 (V := (fun (r : ApiOutcome × Int) (u : (Option Addr) × Nat × Nat) => .tuple #[.agg #[.slice u.1 u.2.1 u.2.2, .int .i64 r.1.Price], .int .i64 r.2])) (HR := (fun (r : ApiOutcome × Int) (u : (Option Addr) × Nat × Nat) => [ownE 3 1 encI u.1 u.2.1 u.2.2 r.1.Won])) (by kernel_rfl) (fun w1 => op_call (by kernel_rfl)) (fun r1 hr1 w1 c1 => m_auction_Run_ok N w1 ([(ApiBid.mk 1 10 2), (ApiBid.mk 2 8 1), (ApiBid.mk 3 8 2)]) (6 : Int) (5 : Int) A1 n2 k3 (c1.own 2 rfl encApiBid_len) (c1.ownZ 2 rfl) r1 hr1) ?_
  intro r10 u11
  refine lm_val 26 (by kernel_rfl) (fun w1 c1 => (op_move (v := .tuple _) rfl)) ?_
  refine lm_val 29 (by kernel_rfl) (fun w1 c1 => (op_extract (v := .agg _) rfl rfl)) ?_
  refine lm_val 30 (by kernel_rfl) (fun w1 c1 => (op_extract (v := .int .i64 _) rfl rfl)) ?_
  refine lm_alloc 6 [.slice none 0 0, .int .i64 0] (v := .agg #[.slice none 0 0, .int .i64 0]) (by kernel_rfl) (by kernel_rfl) rfl ?_
  intro b12
  refine lm_storeA 0 [.slice _ _ _, .int .i64 _] [_, _] (H' := [blkE _ _ [_, _], _, _, _, _]) (by kernel_rfl) rfl rfl (by kernel_rfl) rfl rfl (by kernel_rfl) rfl rfl ?_
  refine lm_val 7 (by kernel_rfl) (fun w1 c1 => (op_assign (v := .int .i64 _) rfl)) ?_
  refine lm_nil ?_
  refine xm_next ?_
  refine cm_seq ?_
  refine cm_region ?_
  refine lm_val 32 (by kernel_rfl) (fun w1 c1 => (op_move (v := .slice _ _ _) rfl)) ?_
  refine lm_call 33 (V := (fun (r : ApiOutcome × Int) (u : (Option Addr) × Nat × Nat) => .tuple #[.agg #[.slice u.1 u.2.1 u.2.2, .int .i64 r.1.Price], .int .i64 r.2])) (HR := (fun (r : ApiOutcome × Int) (u : (Option Addr) × Nat × Nat) => [ownE 3 1 encI u.1 u.2.1 u.2.2 r.1.Won])) (by kernel_rfl) (fun w1 => op_call (by kernel_rfl)) (fun r1 hr1 w1 c1 => m_auction_Run_ok N w1 ([(ApiBid.mk 1 10 2), (ApiBid.mk 2 8 1), (ApiBid.mk 3 8 2)]) (3 : Int) (9 : Int) A1 n2 k3 (c1.own 4 rfl encApiBid_len) (c1.ownZ 4 rfl) r1 hr1) ?_
  intro r13 u14
  refine lm_val 31 (by kernel_rfl) (fun w1 c1 => (op_move (v := .tuple _) rfl)) ?_
  refine lm_val 34 (by kernel_rfl) (fun w1 c1 => (op_extract (v := .agg _) rfl rfl)) ?_
  refine lm_val 35 (by kernel_rfl) (fun w1 c1 => (op_extract (v := .int .i64 _) rfl rfl)) ?_
  refine lm_alloc 8 [.slice none 0 0, .int .i64 0] (v := .agg #[.slice none 0 0, .int .i64 0]) (by kernel_rfl) (by kernel_rfl) rfl ?_
  intro b15
  refine lm_storeA 0 [.slice _ _ _, .int .i64 _] [_, _] (H' := [blkE _ _ [_, _], _, _, _, _, _, _]) (by kernel_rfl) rfl rfl (by kernel_rfl) rfl rfl (by kernel_rfl) rfl rfl ?_
  refine lm_val 9 (by kernel_rfl) (fun w1 c1 => (op_assign (v := .int .i64 _) rfl)) ?_
  refine lm_nil ?_
  refine xm_next ?_
  refine cm_seq ?_
  refine cm_region ?_
  refine lm_val 37 (by kernel_rfl) (fun w1 c1 => (op_loadR [.slice _ _ _, .int .i64 _] rfl (by kernel_rfl) (c1.cells 0 rfl rfl))) ?_
  refine lm_call 38 (V := (fun (r : Int × Int) (_u : Unit) => .tuple #[.int .i64 r.1, .int .i64 r.2])) (HR := (fun (_r : Int × Int) (_u : Unit) => [])) (by kernel_rfl) (fun w1 => op_call (by kernel_rfl)) (fun r1 hr1 w1 c1 => m_auction_Gain_ok N w1 r13.1 (0 : Int) (10 : Int) u14.1 u14.2.1 u14.2.2 (c1.own 1 rfl encI_len) (c1.ownZ 1 rfl) r1 hr1) ?_
  intro r16 u17
  refine lm_val 36 (by kernel_rfl) (fun w1 c1 => (op_move (v := .tuple _) rfl)) ?_
  refine lm_val 39 (by kernel_rfl) (fun w1 c1 => (op_extract (v := .int .i64 _) rfl rfl)) ?_
  refine lm_val 40 (by kernel_rfl) (fun w1 c1 => (op_extract (v := .int .i64 _) rfl rfl)) ?_
  refine lm_val 10 (by kernel_rfl) (fun w1 c1 => (op_assign (v := .int .i64 _) rfl)) ?_
  refine lm_val 11 (by kernel_rfl) (fun w1 c1 => (op_assign (v := .int .i64 _) rfl)) ?_
  refine lm_nil ?_
  refine xm_next ?_
  refine cm_seq ?_
  refine cm_region ?_
  refine lm_val 41 (by kernel_rfl) (fun w1 c1 => (op_move (v := .int .i64 _) rfl)) ?_
  refine lm_decM 42 (by kernel_rfl) (fun w1 c1 => (op_eql rfl rfl)) (fun h18 => ?_) (fun h18 => ?_)
  · skip
    refine lm_val 43 (by kernel_rfl) (fun w1 c1 => (op_move (v := .bool true) rfl)) ?_
    refine lm_val 44 (by kernel_rfl) (fun w1 c1 => (op_loadR [.slice _ _ _, .int .i64 _] rfl (by kernel_rfl) (c1.cells 4 rfl rfl))) ?_
    refine lm_sliceN 45 (el := 3) (sz := 1) (bytes := 8) (enc := encI) [(2 : Int), (1 : Int), (0 : Int)] (by kernel_rfl) (by kernel_rfl) encI_len rfl ⟨rfl, rfl, ⟨rfl, rfl, ⟨rfl, rfl, trivial⟩⟩⟩ (by kernel_rfl) (by kernel_rfl) ?_
    intro A19 n20 k21 h22
    refine lm_val 46 (by kernel_rfl) (fun w1 c1 => (op_build (z := [.slice none 0 0, .int .i64 0]) (tab := [(0, 1), (1, 1)]) (cs := [.slice _ _ _, .int .i64 _]) [(0, [.slice _ _ _]), (1, [.int .i64 _])] (by kernel_rfl) (by kernel_rfl) (fillOk_cons rfl rfl rfl (fillOk_cons rfl rfl rfl fillOk_nil)) rfl)) ?_
    refine lm_call 47 (V := (fun (r : Bool) (_u : Unit) => .bool r)) (HR := (fun (_r : Bool) (_u : Unit) => [])) (by kernel_rfl) (fun w1 => op_call (by kernel_rfl)) (fun r1 hr1 w1 c1 => m_recyclingref51_Same_ok N w1 r5.1 (ApiOutcome.mk ([(2 : Int), (1 : Int), (0 : Int)]) 8) u6.1 u6.2.1 u6.2.2 A19 n20 k21 (c1.own 6 rfl encI_len) (c1.ownZ 6 rfl) (c1.own 0 rfl encI_len) (c1.ownZ 0 rfl) r1 hr1) ?_
    intro r23 u24
    cases r23
    · show Lm _ _ _ _ _ _ (if false = true then _ else _) _ _
      simp only [Bool.false_eq_true, if_false]
      refine lm_val 48 (by kernel_rfl) (fun w1 c1 => (op_pick_t (v := .bool false) rfl rfl)) ?_
      refine lm_val 49 (by kernel_rfl) (fun w1 c1 => (op_move (v := .bool false) rfl)) ?_
      refine lm_skip 50 (by kernel_rfl) ?_
      refine lm_skip 51 (by kernel_rfl) ?_
      refine lm_val 52 (by kernel_rfl) (fun w1 c1 => (op_pick_f (v := .bool false) rfl rfl)) ?_
      refine lm_val 53 (by kernel_rfl) (fun w1 c1 => (op_move (v := .bool false) rfl)) ?_
      refine lm_skip 54 (by kernel_rfl) ?_
      refine lm_skip 55 (by kernel_rfl) ?_
      refine lm_val 56 (by kernel_rfl) (fun w1 c1 => (op_pick_f (v := .bool false) rfl rfl)) ?_
      refine lm_val 57 (by kernel_rfl) (fun w1 c1 => (op_move (v := .bool false) rfl)) ?_
      refine lm_skip 58 (by kernel_rfl) ?_
      refine lm_skip 59 (by kernel_rfl) ?_
      refine lm_val 60 (by kernel_rfl) (fun w1 c1 => (op_pick_f (v := .bool false) rfl rfl)) ?_
      refine lm_val 61 (by kernel_rfl) (fun w1 c1 => (op_move (v := .bool false) rfl)) ?_
      refine lm_skip 62 (by kernel_rfl) ?_
      refine lm_skip 63 (by kernel_rfl) ?_
      refine lm_skip 64 (by kernel_rfl) ?_
      refine lm_skip 65 (by kernel_rfl) ?_
      refine lm_val 66 (by kernel_rfl) (fun w1 c1 => (op_pick_f (v := .bool false) rfl rfl)) ?_
      refine lm_val 67 (by kernel_rfl) (fun w1 c1 => (op_move (v := .bool false) rfl)) ?_
      refine lm_skip 68 (by kernel_rfl) ?_
      refine lm_skip 69 (by kernel_rfl) ?_
      refine lm_val 70 (by kernel_rfl) (fun w1 c1 => (op_pick_f (v := .bool false) rfl rfl)) ?_
      refine lm_val 71 (by kernel_rfl) (fun w1 c1 => (op_move (v := .bool false) rfl)) ?_
      refine lm_skip 72 (by kernel_rfl) ?_
      refine lm_skip 73 (by kernel_rfl) ?_
      refine lm_skip 74 (by kernel_rfl) ?_
      refine lm_skip 75 (by kernel_rfl) ?_
      refine lm_val 76 (by kernel_rfl) (fun w1 c1 => (op_pick_f (v := .bool false) rfl rfl)) ?_
      refine lm_val 77 (by kernel_rfl) (fun w1 c1 => (op_move (v := .bool false) rfl)) ?_
      refine lm_skip 78 (by kernel_rfl) ?_
      refine lm_skip 79 (by kernel_rfl) ?_
      refine lm_val 80 (by kernel_rfl) (fun w1 c1 => (op_pick_f (v := .bool false) rfl rfl)) ?_
      refine lm_val 81 (by kernel_rfl) (fun w1 c1 => (op_move (v := .bool false) rfl)) ?_
      refine lm_skip 82 (by kernel_rfl) ?_
      refine lm_skip 83 (by kernel_rfl) ?_
      refine lm_val 84 (by kernel_rfl) (fun w1 c1 => (op_pick_f (v := .bool false) rfl rfl)) ?_
      refine lm_val 85 (by kernel_rfl) (fun w1 c1 => (op_move (v := .bool false) rfl)) ?_
      refine lm_skip 86 (by kernel_rfl) ?_
      refine lm_skip 87 (by kernel_rfl) ?_
      refine lm_skip 88 (by kernel_rfl) ?_
      refine lm_val 89 (by kernel_rfl) (fun w1 c1 => (op_pick_f (v := .bool false) rfl rfl)) ?_
      refine lm_val 90 (by kernel_rfl) (fun w1 c1 => (op_move (v := .bool false) rfl)) ?_
      refine lm_skip 91 (by kernel_rfl) ?_
      refine lm_skip 92 (by kernel_rfl) ?_
      refine lm_skip 93 (by kernel_rfl) ?_
      refine lm_val 94 (by kernel_rfl) (fun w1 c1 => (op_pick_f (v := .bool false) rfl rfl)) ?_
      refine lm_val 95 (by kernel_rfl) (fun w1 c1 => (op_move (v := .bool false) rfl)) ?_
      refine lm_skip 96 (by kernel_rfl) ?_
      refine lm_skip 97 (by kernel_rfl) ?_
      refine lm_skip 98 (by kernel_rfl) ?_
      refine lm_skip 99 (by kernel_rfl) ?_
      refine lm_val 100 (by kernel_rfl) (fun w1 c1 => (op_pick_f (v := .bool false) rfl rfl)) ?_
      refine lm_val 0 (by kernel_rfl) (fun w1 c1 => (op_assign (v := .bool false) rfl)) ?_
      refine lm_nil ?_
      refine xm_next ?_
      refine cm_ret ?_
      exact xm_retT rfl (by kernel_rfl) (show _ = Value.bool false from rfl) fun w1 c1 => ⟨(), rfl, hsub [] (by kernel_rfl) rfl w1 c1⟩
    · show Lm _ _ _ _ _ _ (if true = true then _ else _) _ _
      simp only [if_true]
      refine lm_val 48 (by kernel_rfl) (fun w1 c1 => (op_pick_t (v := .bool true) rfl rfl)) ?_
      refine lm_val 49 (by kernel_rfl) (fun w1 c1 => (op_move (v := .bool true) rfl)) ?_
      refine lm_val 50 (by kernel_rfl) (fun w1 c1 => (op_move (v := .int .i64 _) rfl)) ?_
      refine lm_decM 51 (by kernel_rfl) (fun w1 c1 => (op_eql rfl rfl)) (fun h25 => ?_) (fun h25 => ?_)
      · skip
        refine lm_val 52 (by kernel_rfl) (fun w1 c1 => (op_pick_t (v := .bool true) rfl rfl)) ?_
        refine lm_val 53 (by kernel_rfl) (fun w1 c1 => (op_move (v := .bool true) rfl)) ?_
        refine lm_val 54 (by kernel_rfl) (fun w1 c1 => (op_move (v := .int .i64 _) rfl)) ?_
        refine lm_decM 55 (by kernel_rfl) (fun w1 c1 => (op_eql rfl rfl)) (fun h26 => ?_) (fun h26 => ?_)
        · skip
          refine lm_val 56 (by kernel_rfl) (fun w1 c1 => (op_pick_t (v := .bool true) rfl rfl)) ?_
          refine lm_val 57 (by kernel_rfl) (fun w1 c1 => (op_move (v := .bool true) rfl)) ?_
          refine lm_val 58 (by kernel_rfl) (fun w1 c1 => (op_move (v := .int .i64 _) rfl)) ?_
          refine lm_decM 59 (by kernel_rfl) (fun w1 c1 => (op_eql rfl rfl)) (fun h27 => ?_) (fun h27 => ?_)
          · skip
            refine lm_val 60 (by kernel_rfl) (fun w1 c1 => (op_pick_t (v := .bool true) rfl rfl)) ?_
            refine lm_val 61 (by kernel_rfl) (fun w1 c1 => (op_move (v := .bool true) rfl)) ?_
            refine lm_val 62 (by kernel_rfl) (fun w1 c1 => (op_loadR [.slice _ _ _, .int .i64 _] rfl (by kernel_rfl) (c1.cells 3 rfl rfl))) ?_
            refine lm_sliceN 63 (el := 3) (sz := 1) (bytes := 8) (enc := encI) [(2 : Int), (1 : Int), (2 : Int)] (by kernel_rfl) (by kernel_rfl) encI_len rfl ⟨rfl, rfl, ⟨rfl, rfl, ⟨rfl, rfl, trivial⟩⟩⟩ (by kernel_rfl) (by kernel_rfl) ?_
            intro A28 n29 k30 h31
            refine lm_val 64 (by kernel_rfl) (fun w1 c1 => (op_build (z := [.slice none 0 0, .int .i64 0]) (tab := [(0, 1), (1, 1)]) (cs := [.slice _ _ _, .int .i64 _]) [(0, [.slice _ _ _]), (1, [.int .i64 _])] (by kernel_rfl) (by kernel_rfl) (fillOk_cons rfl rfl rfl (fillOk_cons rfl rfl rfl fillOk_nil)) rfl)) ?_
            refine lm_call 65 (V := (fun (r : Bool) (_u : Unit) => .bool r)) (HR := (fun (_r : Bool) (_u : Unit) => [])) (by kernel_rfl) (fun w1 => op_call (by kernel_rfl)) (fun r1 hr1 w1 c1 => m_recyclingref51_Same_ok N w1 r10.1 (ApiOutcome.mk ([(2 : Int), (1 : Int), (2 : Int)]) 5) u11.1 u11.2.1 u11.2.2 A28 n29 k30 (c1.own 5 rfl encI_len) (c1.ownZ 5 rfl) (c1.own 0 rfl encI_len) (c1.ownZ 0 rfl) r1 hr1) ?_
            intro r32 u33
            cases r32
            · show Lm _ _ _ _ _ _ (if false = true then _ else _) _ _
              simp only [Bool.false_eq_true, if_false]
              refine lm_val 66 (by kernel_rfl) (fun w1 c1 => (op_pick_t (v := .bool false) rfl rfl)) ?_
              refine lm_val 67 (by kernel_rfl) (fun w1 c1 => (op_move (v := .bool false) rfl)) ?_
              refine lm_skip 68 (by kernel_rfl) ?_
              refine lm_skip 69 (by kernel_rfl) ?_
              refine lm_val 70 (by kernel_rfl) (fun w1 c1 => (op_pick_f (v := .bool false) rfl rfl)) ?_
              refine lm_val 71 (by kernel_rfl) (fun w1 c1 => (op_move (v := .bool false) rfl)) ?_
              refine lm_skip 72 (by kernel_rfl) ?_
              refine lm_skip 73 (by kernel_rfl) ?_
              refine lm_skip 74 (by kernel_rfl) ?_
              refine lm_skip 75 (by kernel_rfl) ?_
              refine lm_val 76 (by kernel_rfl) (fun w1 c1 => (op_pick_f (v := .bool false) rfl rfl)) ?_
              refine lm_val 77 (by kernel_rfl) (fun w1 c1 => (op_move (v := .bool false) rfl)) ?_
              refine lm_skip 78 (by kernel_rfl) ?_
              refine lm_skip 79 (by kernel_rfl) ?_
              refine lm_val 80 (by kernel_rfl) (fun w1 c1 => (op_pick_f (v := .bool false) rfl rfl)) ?_
              refine lm_val 81 (by kernel_rfl) (fun w1 c1 => (op_move (v := .bool false) rfl)) ?_
              refine lm_skip 82 (by kernel_rfl) ?_
              refine lm_skip 83 (by kernel_rfl) ?_
              refine lm_val 84 (by kernel_rfl) (fun w1 c1 => (op_pick_f (v := .bool false) rfl rfl)) ?_
              refine lm_val 85 (by kernel_rfl) (fun w1 c1 => (op_move (v := .bool false) rfl)) ?_
              refine lm_skip 86 (by kernel_rfl) ?_
              refine lm_skip 87 (by kernel_rfl) ?_
              refine lm_skip 88 (by kernel_rfl) ?_
              refine lm_val 89 (by kernel_rfl) (fun w1 c1 => (op_pick_f (v := .bool false) rfl rfl)) ?_
              refine lm_val 90 (by kernel_rfl) (fun w1 c1 => (op_move (v := .bool false) rfl)) ?_
              refine lm_skip 91 (by kernel_rfl) ?_
              refine lm_skip 92 (by kernel_rfl) ?_
              refine lm_skip 93 (by kernel_rfl) ?_
              refine lm_val 94 (by kernel_rfl) (fun w1 c1 => (op_pick_f (v := .bool false) rfl rfl)) ?_
              refine lm_val 95 (by kernel_rfl) (fun w1 c1 => (op_move (v := .bool false) rfl)) ?_
              refine lm_skip 96 (by kernel_rfl) ?_
              refine lm_skip 97 (by kernel_rfl) ?_
              refine lm_skip 98 (by kernel_rfl) ?_
              refine lm_skip 99 (by kernel_rfl) ?_
              refine lm_val 100 (by kernel_rfl) (fun w1 c1 => (op_pick_f (v := .bool false) rfl rfl)) ?_
              refine lm_val 0 (by kernel_rfl) (fun w1 c1 => (op_assign (v := .bool false) rfl)) ?_
              refine lm_nil ?_
              refine xm_next ?_
              refine cm_ret ?_
              exact xm_retT rfl (by kernel_rfl) (show _ = Value.bool false from rfl) fun w1 c1 => ⟨(), rfl, hsub [] (by kernel_rfl) rfl w1 c1⟩
            · show Lm _ _ _ _ _ _ (if true = true then _ else _) _ _
              simp only [if_true]
              refine lm_val 66 (by kernel_rfl) (fun w1 c1 => (op_pick_t (v := .bool true) rfl rfl)) ?_
              refine lm_val 67 (by kernel_rfl) (fun w1 c1 => (op_move (v := .bool true) rfl)) ?_
              refine lm_val 68 (by kernel_rfl) (fun w1 c1 => (op_move (v := .int .i64 _) rfl)) ?_
              refine lm_decM 69 (by kernel_rfl) (fun w1 c1 => (op_eql rfl rfl)) (fun h34 => ?_) (fun h34 => ?_)
              · skip
                refine lm_val 70 (by kernel_rfl) (fun w1 c1 => (op_pick_t (v := .bool true) rfl rfl)) ?_
                refine lm_val 71 (by kernel_rfl) (fun w1 c1 => (op_move (v := .bool true) rfl)) ?_
                refine lm_val 72 (by kernel_rfl) (fun w1 c1 => (op_loadR [.slice _ _ _, .int .i64 _] rfl (by kernel_rfl) (c1.cells 2 rfl rfl))) ?_
                refine lm_sliceN 73 (el := 3) (sz := 1) (bytes := 8) (enc := encI) [(2 : Int), (0 : Int), (0 : Int)] (by kernel_rfl) (by kernel_rfl) encI_len rfl ⟨rfl, rfl, ⟨rfl, rfl, ⟨rfl, rfl, trivial⟩⟩⟩ (by kernel_rfl) (by kernel_rfl) ?_
                intro A35 n36 k37 h38
                refine lm_val 74 (by kernel_rfl) (fun w1 c1 => (op_build (z := [.slice none 0 0, .int .i64 0]) (tab := [(0, 1), (1, 1)]) (cs := [.slice _ _ _, .int .i64 _]) [(0, [.slice _ _ _]), (1, [.int .i64 _])] (by kernel_rfl) (by kernel_rfl) (fillOk_cons rfl rfl rfl (fillOk_cons rfl rfl rfl fillOk_nil)) rfl)) ?_
                refine lm_call 75 (V := (fun (r : Bool) (_u : Unit) => .bool r)) (HR := (fun (_r : Bool) (_u : Unit) => [])) (by kernel_rfl) (fun w1 => op_call (by kernel_rfl)) (fun r1 hr1 w1 c1 => m_recyclingref51_Same_ok N w1 r13.1 (ApiOutcome.mk ([(2 : Int), (0 : Int), (0 : Int)]) 9) u14.1 u14.2.1 u14.2.2 A35 n36 k37 (c1.own 4 rfl encI_len) (c1.ownZ 4 rfl) (c1.own 0 rfl encI_len) (c1.ownZ 0 rfl) r1 hr1) ?_
                intro r39 u40
                cases r39
                · show Lm _ _ _ _ _ _ (if false = true then _ else _) _ _
                  simp only [Bool.false_eq_true, if_false]
                  refine lm_val 76 (by kernel_rfl) (fun w1 c1 => (op_pick_t (v := .bool false) rfl rfl)) ?_
                  refine lm_val 77 (by kernel_rfl) (fun w1 c1 => (op_move (v := .bool false) rfl)) ?_
                  refine lm_skip 78 (by kernel_rfl) ?_
                  refine lm_skip 79 (by kernel_rfl) ?_
                  refine lm_val 80 (by kernel_rfl) (fun w1 c1 => (op_pick_f (v := .bool false) rfl rfl)) ?_
                  refine lm_val 81 (by kernel_rfl) (fun w1 c1 => (op_move (v := .bool false) rfl)) ?_
                  refine lm_skip 82 (by kernel_rfl) ?_
                  refine lm_skip 83 (by kernel_rfl) ?_
                  refine lm_val 84 (by kernel_rfl) (fun w1 c1 => (op_pick_f (v := .bool false) rfl rfl)) ?_
                  refine lm_val 85 (by kernel_rfl) (fun w1 c1 => (op_move (v := .bool false) rfl)) ?_
                  refine lm_skip 86 (by kernel_rfl) ?_
                  refine lm_skip 87 (by kernel_rfl) ?_
                  refine lm_skip 88 (by kernel_rfl) ?_
                  refine lm_val 89 (by kernel_rfl) (fun w1 c1 => (op_pick_f (v := .bool false) rfl rfl)) ?_
                  refine lm_val 90 (by kernel_rfl) (fun w1 c1 => (op_move (v := .bool false) rfl)) ?_
                  refine lm_skip 91 (by kernel_rfl) ?_
                  refine lm_skip 92 (by kernel_rfl) ?_
                  refine lm_skip 93 (by kernel_rfl) ?_
                  refine lm_val 94 (by kernel_rfl) (fun w1 c1 => (op_pick_f (v := .bool false) rfl rfl)) ?_
                  refine lm_val 95 (by kernel_rfl) (fun w1 c1 => (op_move (v := .bool false) rfl)) ?_
                  refine lm_skip 96 (by kernel_rfl) ?_
                  refine lm_skip 97 (by kernel_rfl) ?_
                  refine lm_skip 98 (by kernel_rfl) ?_
                  refine lm_skip 99 (by kernel_rfl) ?_
                  refine lm_val 100 (by kernel_rfl) (fun w1 c1 => (op_pick_f (v := .bool false) rfl rfl)) ?_
                  refine lm_val 0 (by kernel_rfl) (fun w1 c1 => (op_assign (v := .bool false) rfl)) ?_
                  refine lm_nil ?_
                  refine xm_next ?_
                  refine cm_ret ?_
                  exact xm_retT rfl (by kernel_rfl) (show _ = Value.bool false from rfl) fun w1 c1 => ⟨(), rfl, hsub [] (by kernel_rfl) rfl w1 c1⟩
                · show Lm _ _ _ _ _ _ (if true = true then _ else _) _ _
                  simp only [if_true]
                  refine lm_val 76 (by kernel_rfl) (fun w1 c1 => (op_pick_t (v := .bool true) rfl rfl)) ?_
                  refine lm_val 77 (by kernel_rfl) (fun w1 c1 => (op_move (v := .bool true) rfl)) ?_
                  refine lm_val 78 (by kernel_rfl) (fun w1 c1 => (op_move (v := .int .i64 _) rfl)) ?_
                  refine lm_decM 79 (by kernel_rfl) (fun w1 c1 => (op_eql rfl rfl)) (fun h41 => ?_) (fun h41 => ?_)
                  · skip
                    refine lm_val 80 (by kernel_rfl) (fun w1 c1 => (op_pick_t (v := .bool true) rfl rfl)) ?_
                    refine lm_val 81 (by kernel_rfl) (fun w1 c1 => (op_move (v := .bool true) rfl)) ?_
                    refine lm_val 82 (by kernel_rfl) (fun w1 c1 => (op_move (v := .int .i64 _) rfl)) ?_
                    refine lm_decM 83 (by kernel_rfl) (fun w1 c1 => (op_eql rfl rfl)) (fun h42 => ?_) (fun h42 => ?_)
                    · skip
                      refine lm_val 84 (by kernel_rfl) (fun w1 c1 => (op_pick_t (v := .bool true) rfl rfl)) ?_
                      refine lm_val 85 (by kernel_rfl) (fun w1 c1 => (op_move (v := .bool true) rfl)) ?_
                      refine lm_val 86 (by kernel_rfl) (fun w1 c1 => (op_move (v := .slice _ _ _) rfl)) ?_
                      refine lm_call 87 (V := (fun (r : Int) (_u : Unit) => .int .i64 r)) (HR := (fun (_r : Int) (_u : Unit) => [])) (by kernel_rfl) (fun w1 => op_call (by kernel_rfl)) (fun r1 hr1 w1 c1 => m_auction_Check_ok N w1 ([(ApiBid.mk 1 10 2), (ApiBid.mk 2 8 1), (ApiBid.mk 3 8 2)]) A1 n2 k3 (c1.own 9 rfl encApiBid_len) (c1.ownZ 9 rfl) r1 hr1) ?_
                      intro r43 u44
                      refine lm_decM 88 (by kernel_rfl) (fun w1 c1 => (op_eql rfl rfl)) (fun h45 => ?_) (fun h45 => ?_)
                      · skip
                        refine lm_val 89 (by kernel_rfl) (fun w1 c1 => (op_pick_t (v := .bool true) rfl rfl)) ?_
                        refine lm_val 90 (by kernel_rfl) (fun w1 c1 => (op_move (v := .bool true) rfl)) ?_
                        refine lm_val 91 (by kernel_rfl) (fun w1 c1 => (op_move (v := .slice _ _ _) rfl)) ?_
                        refine lm_val 92 (by kernel_rfl) (fun w1 c1 => (op_loadR [.slice _ _ _, .int .i64 _] rfl (by kernel_rfl) (c1.cells 7 rfl rfl))) ?_
                        refine lm_call 93 (V := (fun (r : Bool) (_u : Unit) => .bool r)) (HR := (fun (_r : Bool) (_u : Unit) => [])) (by kernel_rfl) (fun w1 => op_call (by kernel_rfl)) (fun r1 hr1 w1 c1 => m_auction_Holds_ok N w1 ([(ApiBid.mk 1 10 2), (ApiBid.mk 2 8 1), (ApiBid.mk 3 8 2)]) (3 : Int) (0 : Int) r5.1 A1 n2 k3 u6.1 u6.2.1 u6.2.2 (c1.own 9 rfl encApiBid_len) (c1.ownZ 9 rfl) (c1.own 8 rfl encI_len) (c1.ownZ 8 rfl) r1 hr1) ?_
                        intro r46 u47
                        cases r46
                        · show Lm _ _ _ _ _ _ (if false = true then _ else _) _ _
                          simp only [Bool.false_eq_true, if_false]
                          refine lm_val 94 (by kernel_rfl) (fun w1 c1 => (op_pick_t (v := .bool false) rfl rfl)) ?_
                          refine lm_val 95 (by kernel_rfl) (fun w1 c1 => (op_move (v := .bool false) rfl)) ?_
                          refine lm_skip 96 (by kernel_rfl) ?_
                          refine lm_skip 97 (by kernel_rfl) ?_
                          refine lm_skip 98 (by kernel_rfl) ?_
                          refine lm_skip 99 (by kernel_rfl) ?_
                          refine lm_val 100 (by kernel_rfl) (fun w1 c1 => (op_pick_f (v := .bool false) rfl rfl)) ?_
                          refine lm_val 0 (by kernel_rfl) (fun w1 c1 => (op_assign (v := .bool false) rfl)) ?_
                          refine lm_nil ?_
                          refine xm_next ?_
                          refine cm_ret ?_
                          exact xm_retT rfl (by kernel_rfl) (show _ = Value.bool false from rfl) fun w1 c1 => ⟨(), rfl, hsub [] (by kernel_rfl) rfl w1 c1⟩
                        · show Lm _ _ _ _ _ _ (if true = true then _ else _) _ _
                          simp only [if_true]
                          refine lm_val 94 (by kernel_rfl) (fun w1 c1 => (op_pick_t (v := .bool true) rfl rfl)) ?_
                          refine lm_val 95 (by kernel_rfl) (fun w1 c1 => (op_move (v := .bool true) rfl)) ?_
                          refine lm_val 96 (by kernel_rfl) (fun w1 c1 => (op_move (v := .slice _ _ _) rfl)) ?_
                          refine lm_val 97 (by kernel_rfl) (fun w1 c1 => (op_loadR [.slice _ _ _, .int .i64 _] rfl (by kernel_rfl) (c1.cells 5 rfl rfl))) ?_
                          refine lm_call 98 (V := (fun (r : Bool) (_u : Unit) => .bool r)) (HR := (fun (_r : Bool) (_u : Unit) => [])) (by kernel_rfl) (fun w1 => op_call (by kernel_rfl)) (fun r1 hr1 w1 c1 => m_auction_Holds_ok N w1 ([(ApiBid.mk 1 10 2), (ApiBid.mk 2 8 1), (ApiBid.mk 3 8 2)]) (3 : Int) (0 : Int) r10.1 A1 n2 k3 u11.1 u11.2.1 u11.2.2 (c1.own 9 rfl encApiBid_len) (c1.ownZ 9 rfl) (c1.own 6 rfl encI_len) (c1.ownZ 6 rfl) r1 hr1) ?_
                          intro r48 u49
                          refine lm_val 99 (by kernel_rfl) (fun w1 c1 => (op_not rfl)) ?_
                          refine lm_val 100 (by kernel_rfl) (fun w1 c1 => (op_pick_t (v := .bool _) rfl rfl)) ?_
                          refine lm_val 0 (by kernel_rfl) (fun w1 c1 => (op_assign (v := .bool _) rfl)) ?_
                          refine lm_nil ?_
                          refine xm_next ?_
                          refine cm_ret ?_
                          exact xm_retT rfl (by kernel_rfl) (show _ = Value.bool _ from rfl) fun w1 c1 => ⟨(), rfl, hsub [] (by kernel_rfl) rfl w1 c1⟩
                      · skip
                        refine lm_val 89 (by kernel_rfl) (fun w1 c1 => (op_pick_t (v := .bool false) rfl rfl)) ?_
                        refine lm_val 90 (by kernel_rfl) (fun w1 c1 => (op_move (v := .bool false) rfl)) ?_
                        refine lm_skip 91 (by kernel_rfl) ?_
                        refine lm_skip 92 (by kernel_rfl) ?_
                        refine lm_skip 93 (by kernel_rfl) ?_
                        refine lm_val 94 (by kernel_rfl) (fun w1 c1 => (op_pick_f (v := .bool false) rfl rfl)) ?_
                        refine lm_val 95 (by kernel_rfl) (fun w1 c1 => (op_move (v := .bool false) rfl)) ?_
                        refine lm_skip 96 (by kernel_rfl) ?_
                        refine lm_skip 97 (by kernel_rfl) ?_
                        refine lm_skip 98 (by kernel_rfl) ?_
                        refine lm_skip 99 (by kernel_rfl) ?_
                        refine lm_val 100 (by kernel_rfl) (fun w1 c1 => (op_pick_f (v := .bool false) rfl rfl)) ?_
                        refine lm_val 0 (by kernel_rfl) (fun w1 c1 => (op_assign (v := .bool false) rfl)) ?_
                        refine lm_nil ?_
                        refine xm_next ?_
                        refine cm_ret ?_
                        exact xm_retT rfl (by kernel_rfl) (show _ = Value.bool false from rfl) fun w1 c1 => ⟨(), rfl, hsub [] (by kernel_rfl) rfl w1 c1⟩
                    · skip
                      refine lm_val 84 (by kernel_rfl) (fun w1 c1 => (op_pick_t (v := .bool false) rfl rfl)) ?_
                      refine lm_val 85 (by kernel_rfl) (fun w1 c1 => (op_move (v := .bool false) rfl)) ?_
                      refine lm_skip 86 (by kernel_rfl) ?_
                      refine lm_skip 87 (by kernel_rfl) ?_
                      refine lm_skip 88 (by kernel_rfl) ?_
                      refine lm_val 89 (by kernel_rfl) (fun w1 c1 => (op_pick_f (v := .bool false) rfl rfl)) ?_
                      refine lm_val 90 (by kernel_rfl) (fun w1 c1 => (op_move (v := .bool false) rfl)) ?_
                      refine lm_skip 91 (by kernel_rfl) ?_
                      refine lm_skip 92 (by kernel_rfl) ?_
                      refine lm_skip 93 (by kernel_rfl) ?_
                      refine lm_val 94 (by kernel_rfl) (fun w1 c1 => (op_pick_f (v := .bool false) rfl rfl)) ?_
                      refine lm_val 95 (by kernel_rfl) (fun w1 c1 => (op_move (v := .bool false) rfl)) ?_
                      refine lm_skip 96 (by kernel_rfl) ?_
                      refine lm_skip 97 (by kernel_rfl) ?_
                      refine lm_skip 98 (by kernel_rfl) ?_
                      refine lm_skip 99 (by kernel_rfl) ?_
                      refine lm_val 100 (by kernel_rfl) (fun w1 c1 => (op_pick_f (v := .bool false) rfl rfl)) ?_
                      refine lm_val 0 (by kernel_rfl) (fun w1 c1 => (op_assign (v := .bool false) rfl)) ?_
                      refine lm_nil ?_
                      refine xm_next ?_
                      refine cm_ret ?_
                      exact xm_retT rfl (by kernel_rfl) (show _ = Value.bool false from rfl) fun w1 c1 => ⟨(), rfl, hsub [] (by kernel_rfl) rfl w1 c1⟩
                  · skip
                    refine lm_val 80 (by kernel_rfl) (fun w1 c1 => (op_pick_t (v := .bool false) rfl rfl)) ?_
                    refine lm_val 81 (by kernel_rfl) (fun w1 c1 => (op_move (v := .bool false) rfl)) ?_
                    refine lm_skip 82 (by kernel_rfl) ?_
                    refine lm_skip 83 (by kernel_rfl) ?_
                    refine lm_val 84 (by kernel_rfl) (fun w1 c1 => (op_pick_f (v := .bool false) rfl rfl)) ?_
                    refine lm_val 85 (by kernel_rfl) (fun w1 c1 => (op_move (v := .bool false) rfl)) ?_
                    refine lm_skip 86 (by kernel_rfl) ?_
                    refine lm_skip 87 (by kernel_rfl) ?_
                    refine lm_skip 88 (by kernel_rfl) ?_
                    refine lm_val 89 (by kernel_rfl) (fun w1 c1 => (op_pick_f (v := .bool false) rfl rfl)) ?_
                    refine lm_val 90 (by kernel_rfl) (fun w1 c1 => (op_move (v := .bool false) rfl)) ?_
                    refine lm_skip 91 (by kernel_rfl) ?_
                    refine lm_skip 92 (by kernel_rfl) ?_
                    refine lm_skip 93 (by kernel_rfl) ?_
                    refine lm_val 94 (by kernel_rfl) (fun w1 c1 => (op_pick_f (v := .bool false) rfl rfl)) ?_
                    refine lm_val 95 (by kernel_rfl) (fun w1 c1 => (op_move (v := .bool false) rfl)) ?_
                    refine lm_skip 96 (by kernel_rfl) ?_
                    refine lm_skip 97 (by kernel_rfl) ?_
                    refine lm_skip 98 (by kernel_rfl) ?_
                    refine lm_skip 99 (by kernel_rfl) ?_
                    refine lm_val 100 (by kernel_rfl) (fun w1 c1 => (op_pick_f (v := .bool false) rfl rfl)) ?_
                    refine lm_val 0 (by kernel_rfl) (fun w1 c1 => (op_assign (v := .bool false) rfl)) ?_
                    refine lm_nil ?_
                    refine xm_next ?_
                    refine cm_ret ?_
                    exact xm_retT rfl (by kernel_rfl) (show _ = Value.bool false from rfl) fun w1 c1 => ⟨(), rfl, hsub [] (by kernel_rfl) rfl w1 c1⟩
              · skip
                refine lm_val 70 (by kernel_rfl) (fun w1 c1 => (op_pick_t (v := .bool false) rfl rfl)) ?_
                refine lm_val 71 (by kernel_rfl) (fun w1 c1 => (op_move (v := .bool false) rfl)) ?_
                refine lm_skip 72 (by kernel_rfl) ?_
                refine lm_skip 73 (by kernel_rfl) ?_
                refine lm_skip 74 (by kernel_rfl) ?_
                refine lm_skip 75 (by kernel_rfl) ?_
                refine lm_val 76 (by kernel_rfl) (fun w1 c1 => (op_pick_f (v := .bool false) rfl rfl)) ?_
                refine lm_val 77 (by kernel_rfl) (fun w1 c1 => (op_move (v := .bool false) rfl)) ?_
                refine lm_skip 78 (by kernel_rfl) ?_
                refine lm_skip 79 (by kernel_rfl) ?_
                refine lm_val 80 (by kernel_rfl) (fun w1 c1 => (op_pick_f (v := .bool false) rfl rfl)) ?_
                refine lm_val 81 (by kernel_rfl) (fun w1 c1 => (op_move (v := .bool false) rfl)) ?_
                refine lm_skip 82 (by kernel_rfl) ?_
                refine lm_skip 83 (by kernel_rfl) ?_
                refine lm_val 84 (by kernel_rfl) (fun w1 c1 => (op_pick_f (v := .bool false) rfl rfl)) ?_
                refine lm_val 85 (by kernel_rfl) (fun w1 c1 => (op_move (v := .bool false) rfl)) ?_
                refine lm_skip 86 (by kernel_rfl) ?_
                refine lm_skip 87 (by kernel_rfl) ?_
                refine lm_skip 88 (by kernel_rfl) ?_
                refine lm_val 89 (by kernel_rfl) (fun w1 c1 => (op_pick_f (v := .bool false) rfl rfl)) ?_
                refine lm_val 90 (by kernel_rfl) (fun w1 c1 => (op_move (v := .bool false) rfl)) ?_
                refine lm_skip 91 (by kernel_rfl) ?_
                refine lm_skip 92 (by kernel_rfl) ?_
                refine lm_skip 93 (by kernel_rfl) ?_
                refine lm_val 94 (by kernel_rfl) (fun w1 c1 => (op_pick_f (v := .bool false) rfl rfl)) ?_
                refine lm_val 95 (by kernel_rfl) (fun w1 c1 => (op_move (v := .bool false) rfl)) ?_
                refine lm_skip 96 (by kernel_rfl) ?_
                refine lm_skip 97 (by kernel_rfl) ?_
                refine lm_skip 98 (by kernel_rfl) ?_
                refine lm_skip 99 (by kernel_rfl) ?_
                refine lm_val 100 (by kernel_rfl) (fun w1 c1 => (op_pick_f (v := .bool false) rfl rfl)) ?_
                refine lm_val 0 (by kernel_rfl) (fun w1 c1 => (op_assign (v := .bool false) rfl)) ?_
                refine lm_nil ?_
                refine xm_next ?_
                refine cm_ret ?_
                exact xm_retT rfl (by kernel_rfl) (show _ = Value.bool false from rfl) fun w1 c1 => ⟨(), rfl, hsub [] (by kernel_rfl) rfl w1 c1⟩
          · skip
            refine lm_val 60 (by kernel_rfl) (fun w1 c1 => (op_pick_t (v := .bool false) rfl rfl)) ?_
            refine lm_val 61 (by kernel_rfl) (fun w1 c1 => (op_move (v := .bool false) rfl)) ?_
            refine lm_skip 62 (by kernel_rfl) ?_
            refine lm_skip 63 (by kernel_rfl) ?_
            refine lm_skip 64 (by kernel_rfl) ?_
            refine lm_skip 65 (by kernel_rfl) ?_
            refine lm_val 66 (by kernel_rfl) (fun w1 c1 => (op_pick_f (v := .bool false) rfl rfl)) ?_
            refine lm_val 67 (by kernel_rfl) (fun w1 c1 => (op_move (v := .bool false) rfl)) ?_
            refine lm_skip 68 (by kernel_rfl) ?_
            refine lm_skip 69 (by kernel_rfl) ?_
            refine lm_val 70 (by kernel_rfl) (fun w1 c1 => (op_pick_f (v := .bool false) rfl rfl)) ?_
            refine lm_val 71 (by kernel_rfl) (fun w1 c1 => (op_move (v := .bool false) rfl)) ?_
            refine lm_skip 72 (by kernel_rfl) ?_
            refine lm_skip 73 (by kernel_rfl) ?_
            refine lm_skip 74 (by kernel_rfl) ?_
            refine lm_skip 75 (by kernel_rfl) ?_
            refine lm_val 76 (by kernel_rfl) (fun w1 c1 => (op_pick_f (v := .bool false) rfl rfl)) ?_
            refine lm_val 77 (by kernel_rfl) (fun w1 c1 => (op_move (v := .bool false) rfl)) ?_
            refine lm_skip 78 (by kernel_rfl) ?_
            refine lm_skip 79 (by kernel_rfl) ?_
            refine lm_val 80 (by kernel_rfl) (fun w1 c1 => (op_pick_f (v := .bool false) rfl rfl)) ?_
            refine lm_val 81 (by kernel_rfl) (fun w1 c1 => (op_move (v := .bool false) rfl)) ?_
            refine lm_skip 82 (by kernel_rfl) ?_
            refine lm_skip 83 (by kernel_rfl) ?_
            refine lm_val 84 (by kernel_rfl) (fun w1 c1 => (op_pick_f (v := .bool false) rfl rfl)) ?_
            refine lm_val 85 (by kernel_rfl) (fun w1 c1 => (op_move (v := .bool false) rfl)) ?_
            refine lm_skip 86 (by kernel_rfl) ?_
            refine lm_skip 87 (by kernel_rfl) ?_
            refine lm_skip 88 (by kernel_rfl) ?_
            refine lm_val 89 (by kernel_rfl) (fun w1 c1 => (op_pick_f (v := .bool false) rfl rfl)) ?_
            refine lm_val 90 (by kernel_rfl) (fun w1 c1 => (op_move (v := .bool false) rfl)) ?_
            refine lm_skip 91 (by kernel_rfl) ?_
            refine lm_skip 92 (by kernel_rfl) ?_
            refine lm_skip 93 (by kernel_rfl) ?_
            refine lm_val 94 (by kernel_rfl) (fun w1 c1 => (op_pick_f (v := .bool false) rfl rfl)) ?_
            refine lm_val 95 (by kernel_rfl) (fun w1 c1 => (op_move (v := .bool false) rfl)) ?_
            refine lm_skip 96 (by kernel_rfl) ?_
            refine lm_skip 97 (by kernel_rfl) ?_
            refine lm_skip 98 (by kernel_rfl) ?_
            refine lm_skip 99 (by kernel_rfl) ?_
            refine lm_val 100 (by kernel_rfl) (fun w1 c1 => (op_pick_f (v := .bool false) rfl rfl)) ?_
            refine lm_val 0 (by kernel_rfl) (fun w1 c1 => (op_assign (v := .bool false) rfl)) ?_
            refine lm_nil ?_
            refine xm_next ?_
            refine cm_ret ?_
            exact xm_retT rfl (by kernel_rfl) (show _ = Value.bool false from rfl) fun w1 c1 => ⟨(), rfl, hsub [] (by kernel_rfl) rfl w1 c1⟩
        · skip
          refine lm_val 56 (by kernel_rfl) (fun w1 c1 => (op_pick_t (v := .bool false) rfl rfl)) ?_
          refine lm_val 57 (by kernel_rfl) (fun w1 c1 => (op_move (v := .bool false) rfl)) ?_
          refine lm_skip 58 (by kernel_rfl) ?_
          refine lm_skip 59 (by kernel_rfl) ?_
          refine lm_val 60 (by kernel_rfl) (fun w1 c1 => (op_pick_f (v := .bool false) rfl rfl)) ?_
          refine lm_val 61 (by kernel_rfl) (fun w1 c1 => (op_move (v := .bool false) rfl)) ?_
          refine lm_skip 62 (by kernel_rfl) ?_
          refine lm_skip 63 (by kernel_rfl) ?_
          refine lm_skip 64 (by kernel_rfl) ?_
          refine lm_skip 65 (by kernel_rfl) ?_
          refine lm_val 66 (by kernel_rfl) (fun w1 c1 => (op_pick_f (v := .bool false) rfl rfl)) ?_
          refine lm_val 67 (by kernel_rfl) (fun w1 c1 => (op_move (v := .bool false) rfl)) ?_
          refine lm_skip 68 (by kernel_rfl) ?_
          refine lm_skip 69 (by kernel_rfl) ?_
          refine lm_val 70 (by kernel_rfl) (fun w1 c1 => (op_pick_f (v := .bool false) rfl rfl)) ?_
          refine lm_val 71 (by kernel_rfl) (fun w1 c1 => (op_move (v := .bool false) rfl)) ?_
          refine lm_skip 72 (by kernel_rfl) ?_
          refine lm_skip 73 (by kernel_rfl) ?_
          refine lm_skip 74 (by kernel_rfl) ?_
          refine lm_skip 75 (by kernel_rfl) ?_
          refine lm_val 76 (by kernel_rfl) (fun w1 c1 => (op_pick_f (v := .bool false) rfl rfl)) ?_
          refine lm_val 77 (by kernel_rfl) (fun w1 c1 => (op_move (v := .bool false) rfl)) ?_
          refine lm_skip 78 (by kernel_rfl) ?_
          refine lm_skip 79 (by kernel_rfl) ?_
          refine lm_val 80 (by kernel_rfl) (fun w1 c1 => (op_pick_f (v := .bool false) rfl rfl)) ?_
          refine lm_val 81 (by kernel_rfl) (fun w1 c1 => (op_move (v := .bool false) rfl)) ?_
          refine lm_skip 82 (by kernel_rfl) ?_
          refine lm_skip 83 (by kernel_rfl) ?_
          refine lm_val 84 (by kernel_rfl) (fun w1 c1 => (op_pick_f (v := .bool false) rfl rfl)) ?_
          refine lm_val 85 (by kernel_rfl) (fun w1 c1 => (op_move (v := .bool false) rfl)) ?_
          refine lm_skip 86 (by kernel_rfl) ?_
          refine lm_skip 87 (by kernel_rfl) ?_
          refine lm_skip 88 (by kernel_rfl) ?_
          refine lm_val 89 (by kernel_rfl) (fun w1 c1 => (op_pick_f (v := .bool false) rfl rfl)) ?_
          refine lm_val 90 (by kernel_rfl) (fun w1 c1 => (op_move (v := .bool false) rfl)) ?_
          refine lm_skip 91 (by kernel_rfl) ?_
          refine lm_skip 92 (by kernel_rfl) ?_
          refine lm_skip 93 (by kernel_rfl) ?_
          refine lm_val 94 (by kernel_rfl) (fun w1 c1 => (op_pick_f (v := .bool false) rfl rfl)) ?_
          refine lm_val 95 (by kernel_rfl) (fun w1 c1 => (op_move (v := .bool false) rfl)) ?_
          refine lm_skip 96 (by kernel_rfl) ?_
          refine lm_skip 97 (by kernel_rfl) ?_
          refine lm_skip 98 (by kernel_rfl) ?_
          refine lm_skip 99 (by kernel_rfl) ?_
          refine lm_val 100 (by kernel_rfl) (fun w1 c1 => (op_pick_f (v := .bool false) rfl rfl)) ?_
          refine lm_val 0 (by kernel_rfl) (fun w1 c1 => (op_assign (v := .bool false) rfl)) ?_
          refine lm_nil ?_
          refine xm_next ?_
          refine cm_ret ?_
          exact xm_retT rfl (by kernel_rfl) (show _ = Value.bool false from rfl) fun w1 c1 => ⟨(), rfl, hsub [] (by kernel_rfl) rfl w1 c1⟩
      · skip
        refine lm_val 52 (by kernel_rfl) (fun w1 c1 => (op_pick_t (v := .bool false) rfl rfl)) ?_
        refine lm_val 53 (by kernel_rfl) (fun w1 c1 => (op_move (v := .bool false) rfl)) ?_
        refine lm_skip 54 (by kernel_rfl) ?_
        refine lm_skip 55 (by kernel_rfl) ?_
        refine lm_val 56 (by kernel_rfl) (fun w1 c1 => (op_pick_f (v := .bool false) rfl rfl)) ?_
        refine lm_val 57 (by kernel_rfl) (fun w1 c1 => (op_move (v := .bool false) rfl)) ?_
        refine lm_skip 58 (by kernel_rfl) ?_
        refine lm_skip 59 (by kernel_rfl) ?_
        refine lm_val 60 (by kernel_rfl) (fun w1 c1 => (op_pick_f (v := .bool false) rfl rfl)) ?_
        refine lm_val 61 (by kernel_rfl) (fun w1 c1 => (op_move (v := .bool false) rfl)) ?_
        refine lm_skip 62 (by kernel_rfl) ?_
        refine lm_skip 63 (by kernel_rfl) ?_
        refine lm_skip 64 (by kernel_rfl) ?_
        refine lm_skip 65 (by kernel_rfl) ?_
        refine lm_val 66 (by kernel_rfl) (fun w1 c1 => (op_pick_f (v := .bool false) rfl rfl)) ?_
        refine lm_val 67 (by kernel_rfl) (fun w1 c1 => (op_move (v := .bool false) rfl)) ?_
        refine lm_skip 68 (by kernel_rfl) ?_
        refine lm_skip 69 (by kernel_rfl) ?_
        refine lm_val 70 (by kernel_rfl) (fun w1 c1 => (op_pick_f (v := .bool false) rfl rfl)) ?_
        refine lm_val 71 (by kernel_rfl) (fun w1 c1 => (op_move (v := .bool false) rfl)) ?_
        refine lm_skip 72 (by kernel_rfl) ?_
        refine lm_skip 73 (by kernel_rfl) ?_
        refine lm_skip 74 (by kernel_rfl) ?_
        refine lm_skip 75 (by kernel_rfl) ?_
        refine lm_val 76 (by kernel_rfl) (fun w1 c1 => (op_pick_f (v := .bool false) rfl rfl)) ?_
        refine lm_val 77 (by kernel_rfl) (fun w1 c1 => (op_move (v := .bool false) rfl)) ?_
        refine lm_skip 78 (by kernel_rfl) ?_
        refine lm_skip 79 (by kernel_rfl) ?_
        refine lm_val 80 (by kernel_rfl) (fun w1 c1 => (op_pick_f (v := .bool false) rfl rfl)) ?_
        refine lm_val 81 (by kernel_rfl) (fun w1 c1 => (op_move (v := .bool false) rfl)) ?_
        refine lm_skip 82 (by kernel_rfl) ?_
        refine lm_skip 83 (by kernel_rfl) ?_
        refine lm_val 84 (by kernel_rfl) (fun w1 c1 => (op_pick_f (v := .bool false) rfl rfl)) ?_
        refine lm_val 85 (by kernel_rfl) (fun w1 c1 => (op_move (v := .bool false) rfl)) ?_
        refine lm_skip 86 (by kernel_rfl) ?_
        refine lm_skip 87 (by kernel_rfl) ?_
        refine lm_skip 88 (by kernel_rfl) ?_
        refine lm_val 89 (by kernel_rfl) (fun w1 c1 => (op_pick_f (v := .bool false) rfl rfl)) ?_
        refine lm_val 90 (by kernel_rfl) (fun w1 c1 => (op_move (v := .bool false) rfl)) ?_
        refine lm_skip 91 (by kernel_rfl) ?_
        refine lm_skip 92 (by kernel_rfl) ?_
        refine lm_skip 93 (by kernel_rfl) ?_
        refine lm_val 94 (by kernel_rfl) (fun w1 c1 => (op_pick_f (v := .bool false) rfl rfl)) ?_
        refine lm_val 95 (by kernel_rfl) (fun w1 c1 => (op_move (v := .bool false) rfl)) ?_
        refine lm_skip 96 (by kernel_rfl) ?_
        refine lm_skip 97 (by kernel_rfl) ?_
        refine lm_skip 98 (by kernel_rfl) ?_
        refine lm_skip 99 (by kernel_rfl) ?_
        refine lm_val 100 (by kernel_rfl) (fun w1 c1 => (op_pick_f (v := .bool false) rfl rfl)) ?_
        refine lm_val 0 (by kernel_rfl) (fun w1 c1 => (op_assign (v := .bool false) rfl)) ?_
        refine lm_nil ?_
        refine xm_next ?_
        refine cm_ret ?_
        exact xm_retT rfl (by kernel_rfl) (show _ = Value.bool false from rfl) fun w1 c1 => ⟨(), rfl, hsub [] (by kernel_rfl) rfl w1 c1⟩
  · skip
    refine lm_val 43 (by kernel_rfl) (fun w1 c1 => (op_move (v := .bool false) rfl)) ?_
    refine lm_skip 44 (by kernel_rfl) ?_
    refine lm_skip 45 (by kernel_rfl) ?_
    refine lm_skip 46 (by kernel_rfl) ?_
    refine lm_skip 47 (by kernel_rfl) ?_
    refine lm_val 48 (by kernel_rfl) (fun w1 c1 => (op_pick_f (v := .bool false) rfl rfl)) ?_
    refine lm_val 49 (by kernel_rfl) (fun w1 c1 => (op_move (v := .bool false) rfl)) ?_
    refine lm_skip 50 (by kernel_rfl) ?_
    refine lm_skip 51 (by kernel_rfl) ?_
    refine lm_val 52 (by kernel_rfl) (fun w1 c1 => (op_pick_f (v := .bool false) rfl rfl)) ?_
    refine lm_val 53 (by kernel_rfl) (fun w1 c1 => (op_move (v := .bool false) rfl)) ?_
    refine lm_skip 54 (by kernel_rfl) ?_
    refine lm_skip 55 (by kernel_rfl) ?_
    refine lm_val 56 (by kernel_rfl) (fun w1 c1 => (op_pick_f (v := .bool false) rfl rfl)) ?_
    refine lm_val 57 (by kernel_rfl) (fun w1 c1 => (op_move (v := .bool false) rfl)) ?_
    refine lm_skip 58 (by kernel_rfl) ?_
    refine lm_skip 59 (by kernel_rfl) ?_
    refine lm_val 60 (by kernel_rfl) (fun w1 c1 => (op_pick_f (v := .bool false) rfl rfl)) ?_
    refine lm_val 61 (by kernel_rfl) (fun w1 c1 => (op_move (v := .bool false) rfl)) ?_
    refine lm_skip 62 (by kernel_rfl) ?_
    refine lm_skip 63 (by kernel_rfl) ?_
    refine lm_skip 64 (by kernel_rfl) ?_
    refine lm_skip 65 (by kernel_rfl) ?_
    refine lm_val 66 (by kernel_rfl) (fun w1 c1 => (op_pick_f (v := .bool false) rfl rfl)) ?_
    refine lm_val 67 (by kernel_rfl) (fun w1 c1 => (op_move (v := .bool false) rfl)) ?_
    refine lm_skip 68 (by kernel_rfl) ?_
    refine lm_skip 69 (by kernel_rfl) ?_
    refine lm_val 70 (by kernel_rfl) (fun w1 c1 => (op_pick_f (v := .bool false) rfl rfl)) ?_
    refine lm_val 71 (by kernel_rfl) (fun w1 c1 => (op_move (v := .bool false) rfl)) ?_
    refine lm_skip 72 (by kernel_rfl) ?_
    refine lm_skip 73 (by kernel_rfl) ?_
    refine lm_skip 74 (by kernel_rfl) ?_
    refine lm_skip 75 (by kernel_rfl) ?_
    refine lm_val 76 (by kernel_rfl) (fun w1 c1 => (op_pick_f (v := .bool false) rfl rfl)) ?_
    refine lm_val 77 (by kernel_rfl) (fun w1 c1 => (op_move (v := .bool false) rfl)) ?_
    refine lm_skip 78 (by kernel_rfl) ?_
    refine lm_skip 79 (by kernel_rfl) ?_
    refine lm_val 80 (by kernel_rfl) (fun w1 c1 => (op_pick_f (v := .bool false) rfl rfl)) ?_
    refine lm_val 81 (by kernel_rfl) (fun w1 c1 => (op_move (v := .bool false) rfl)) ?_
    refine lm_skip 82 (by kernel_rfl) ?_
    refine lm_skip 83 (by kernel_rfl) ?_
    refine lm_val 84 (by kernel_rfl) (fun w1 c1 => (op_pick_f (v := .bool false) rfl rfl)) ?_
    refine lm_val 85 (by kernel_rfl) (fun w1 c1 => (op_move (v := .bool false) rfl)) ?_
    refine lm_skip 86 (by kernel_rfl) ?_
    refine lm_skip 87 (by kernel_rfl) ?_
    refine lm_skip 88 (by kernel_rfl) ?_
    refine lm_val 89 (by kernel_rfl) (fun w1 c1 => (op_pick_f (v := .bool false) rfl rfl)) ?_
    refine lm_val 90 (by kernel_rfl) (fun w1 c1 => (op_move (v := .bool false) rfl)) ?_
    refine lm_skip 91 (by kernel_rfl) ?_
    refine lm_skip 92 (by kernel_rfl) ?_
    refine lm_skip 93 (by kernel_rfl) ?_
    refine lm_val 94 (by kernel_rfl) (fun w1 c1 => (op_pick_f (v := .bool false) rfl rfl)) ?_
    refine lm_val 95 (by kernel_rfl) (fun w1 c1 => (op_move (v := .bool false) rfl)) ?_
    refine lm_skip 96 (by kernel_rfl) ?_
    refine lm_skip 97 (by kernel_rfl) ?_
    refine lm_skip 98 (by kernel_rfl) ?_
    refine lm_skip 99 (by kernel_rfl) ?_
    refine lm_val 100 (by kernel_rfl) (fun w1 c1 => (op_pick_f (v := .bool false) rfl rfl)) ?_
    refine lm_val 0 (by kernel_rfl) (fun w1 c1 => (op_assign (v := .bool false) rfl)) ?_
    refine lm_nil ?_
    refine xm_next ?_
    refine cm_ret ?_
    exact xm_retT rfl (by kernel_rfl) (show _ = Value.bool false from rfl) fun w1 c1 => ⟨(), rfl, hsub [] (by kernel_rfl) rfl w1 c1⟩
end Go.Proofs.Ytimmifkdocjljaa
