/- Models of functions, and that the code follows them. Written by deco.py. -/
import Derived.Test.YtkepegnnkmmefaaEmpAwake
namespace Go.Proofs.Ytkepegnnkmmefaa
open Go.RowKit

/-- recyclinglaw18.EmptyingWindows -/
def m_recyclinglaw18_EmptyingWindows (N : Nat) (p0 : (List ApiEmptying)) (p1 : (List ApiAssign)) (p2 : Recyclinglaw18Ask) : Option (Bool) :=
  Option.bind (m_recyclinglaw18_great N p0) fun r2 => (if (r2 || (decide (60 < (List.length p1 : Int)))) = true then
    Option.bind (m_recyclinglaw18_awake N) fun r6 => some (r6)
  else
    Option.bind (m_emptying_Of N p0 p1 p2.Household p2.When p2.Gap) fun r8 => (if r8.2 ≠ 0 then
      callIf (decide ((List.length r8.1 : Int) = 0) = true) (m_recyclinglaw18_awake N) fun r11 => some (((decide ((List.length r8.1 : Int) = 0)) && r11))
    else
      ck (I64 (p2.When.To - p2.When.From)) (
        ck (I64 (p2.When.To - p2.When.From)) (
          ck (I64 (p2.When.From + (Int.tdiv (p2.When.To - p2.When.From) 2))) (
            (andThen
              (ck (decide (0 < (List.length p0 : Int)) = true → (0 : Int) ≤ 0 ∧ 0 < (List.length p0 : Int)) (
                ck (((decide (0 < (List.length p0 : Int))) && (decide (p2.When.From ≤ (ix p0 0).At))) = true → (0 : Int) ≤ 0 ∧ 0 < (List.length p0 : Int)) (
                  (if (((decide (0 < (List.length p0 : Int))) && (decide (p2.When.From ≤ (ix p0 0).At))) && (decide ((ix p0 0).At < p2.When.To))) = true then
                    ck ((0 : Int) ≤ 0 ∧ 0 < (List.length p0 : Int)) (
                      some (.next ((ix p0 0).At)))
                  else
                    some (.next (p2.When.From + (Int.tdiv (p2.When.To - p2.When.From) 2)))))))
            fun (s23 : Int) =>
              Option.bind (m_emptying_Of N p0 p1 p2.Household (ApiWindow.mk p2.When.From s23) p2.Gap) fun r31 => Option.bind (m_emptying_Of N p0 p1 p2.Household (ApiWindow.mk s23 p2.When.To) p2.Gap) fun r33 => (if r31.2 = 0 then
                (if r33.2 = 0 then
                  ck ((List.length ([] : List Int) + List.length r31.1) * 8 ≤ 140737488355328) (
                    ck ((List.length (([] : List Int) ++ r31.1) + List.length r33.1) * 8 ≤ 140737488355328) (
                      Option.bind (m_recyclingref18_Same N ((([] : List Int) ++ r31.1) ++ r33.1) r8.1) fun r49 => (if r49 = true then
                        Option.bind (m_recyclinglaw18_awake N) fun r51 => some (r51)
                      else
                        some (false))))
                else
                  some (false))
              else
                some (false))))))))
set_option maxRecDepth 20000 in
theorem m_recyclinglaw18_EmptyingWindows_ok (N : Nat) (w0 : World) (p0 : (List ApiEmptying)) (p1 : (List ApiAssign)) (p2 : Recyclinglaw18Ask) (A_p0 : Option Addr) (n_p0 c_p0 : Nat) (A_p1 : Option Addr) (n_p1 c_p1 : Nat) (hr_p0 : RdE w0 7 encApiEmptying A_p0 p0) (hz_p0 : SW A_p0 n_p0 c_p0 (List.length p0)) (hr_p1 : RdE w0 4 encApiAssign A_p1 p1) (hz_p1 : SW A_p1 n_p1 c_p1 (List.length p1)) (r : Bool) (hr : m_recyclinglaw18_EmptyingWindows N p0 p1 p2 = some r) :
    Calls Try.prog 9 [.slice A_p0 n_p0 c_p0, .slice A_p1 n_p1 c_p1, .agg #[.int .i64 p2.Household, .int .i64 p2.When.From, .int .i64 p2.When.To, .int .i64 p2.Gap]].toArray w0 fun x w1 => ∃ u, x = .returned ((fun (r : Bool) (_u : Unit) => .bool r) r u) ∧ Hs w0 ((fun (_r : Bool) (_u : Unit) => []) r u) w1 := by
  refine calls_cm (n := 129) (R := fun r x w1 => ∃ u, x = .returned ((fun (r : Bool) (_u : Unit) => .bool r) r u) ∧ Hs w0 ((fun (_r : Bool) (_u : Unit) => []) r u) w1) Try.func9 rfl rfl (Nat.le_of_ble_eq_true rfl) ?_ r hr
  unfold m_recyclinglaw18_EmptyingWindows
  refine cm_seq ?_
  refine cm_region ?_
  refine lm_box 5 [.int .i64 _, .int .i64 _, .int .i64 _, .int .i64 _] (by kernel_rfl) rfl ?_
  intro b1
  refine lm_val 6 (by kernel_rfl) (fun w1 c1 => (op_assign (v := .bool false) rfl)) ?_
  refine lm_nil ?_
  refine xm_next ?_
  refine cm_seq ?_
  refine cm_seq ?_
  refine cm_bind fun r2 h3 => ?_
  refine cm_cutE [(20, .bool (r2 || (decide (60 < (List.length p1 : Int)))))] ?_ ?_
  · skip
    refine wq_val 14 (by kernel_rfl) (fun w1 c1 => (op_move (v := .slice _ _ _) rfl)) ?_
    refine wq_callb 15 (by kernel_rfl) (fun w1 c1 => op_call (by kernel_rfl)) (fun w1 c1 => (m_recyclinglaw18_great_ok N w1 p0 A_p0 n_p0 c_p0 (hr_p0.old c1) hz_p0 r2 h3).mono (fun _ _ ⟨_, hx, hu⟩ => ⟨hx, c1.call hu⟩)) (fun h4 => ?_) (fun h4 => ?_)
    · skip
      refine wq_val 16 (by kernel_rfl) (fun w1 c1 => (op_move (v := .bool true) rfl)) ?_
      refine wq_skip 17 (by kernel_rfl) ?_
      refine wq_skip 18 (by kernel_rfl) ?_
      refine wq_skip 19 (by kernel_rfl) ?_
      refine wq_val 20 (by kernel_rfl) (fun w1 c1 => (op_pick_t (v := .bool true) rfl rfl)) ?_
      exact leaf_q (sub_out 7 _ rfl (by kernel_rfl) ⟨(congrArg Value.bool (by rw [h4] <;> rfl)), trivial⟩)
    · skip
      refine wq_val 16 (by kernel_rfl) (fun w1 c1 => (op_move (v := .bool false) rfl)) ?_
      refine wq_val 17 (by kernel_rfl) (fun w1 c1 => (op_move (v := .slice _ _ _) rfl)) ?_
      refine wq_val 18 (by kernel_rfl) (fun w1 c1 => (op_lenN rfl (by kernel_rfl) hz_p1.2.2)) ?_
      refine wq_val 19 (by kernel_rfl) (fun w1 c1 => (op_gtr rfl rfl)) ?_
      refine wq_val 20 (by kernel_rfl) (fun w1 c1 => (op_pick_f (v := .bool _) rfl rfl)) ?_
      exact leaf_q (sub_out 7 _ rfl (by kernel_rfl) ⟨(congrArg Value.bool (by rw [h4] <;> rfl)), trivial⟩)
  refine xm_next ?_
  refine cm_condB (by kernel_rfl) rfl (fun h5 => ?_) (fun h5 => ?_)
  · skip
    refine cm_seq ?_
    refine cm_region ?_
    refine lm_call 21 (V := (fun (r : Bool) (_u : Unit) => .bool r)) (HR := (fun (_r : Bool) (_u : Unit) => [])) (by kernel_rfl) (fun w1 => op_call (by kernel_rfl)) (fun r1 hr1 w1 c1 => m_recyclinglaw18_awake_ok N w1   r1 hr1) ?_
    intro r6 u7
    refine lm_val 6 (by kernel_rfl) (fun w1 c1 => (op_assign (v := .bool _) rfl)) ?_
    refine lm_nil ?_
    refine xm_next ?_
    refine cm_ret ?_
    refine xm_thenR ?_
    exact xm_retT rfl (by kernel_rfl) (show _ = Value.bool _ from rfl) fun w1 c1 => ⟨(), rfl, hsub [] (by kernel_rfl) rfl w1 c1⟩
  · skip
    refine cm_skip ?_
    refine xm_next ?_
    refine cm_seq ?_
    refine cm_region ?_
    refine lm_val 23 (by kernel_rfl) (fun w1 c1 => (op_move (v := .slice _ _ _) rfl)) ?_
    refine lm_val 24 (by kernel_rfl) (fun w1 c1 => (op_move (v := .slice _ _ _) rfl)) ?_
    refine lm_val 25 (by kernel_rfl) (fun w1 c1 => (op_fieldL (m := 0) (k := 0) rfl (by kernel_rfl) rfl)) ?_
    refine lm_val 26 (by kernel_rfl) (fun w1 c1 => (op_load rfl (by kernel_rfl) (c1.cell 0 (u := .int .i64 _) rfl rfl))) ?_
    refine lm_val 27 (by kernel_rfl) (fun w1 c1 => (op_fieldL (m := 1) (k := 1) rfl (by kernel_rfl) rfl)) ?_
    refine lm_val 28 (by kernel_rfl) (fun w1 c1 => (op_loadR [.int .i64 _, .int .i64 _] rfl (by kernel_rfl) (c1.cells 0 rfl rfl))) ?_
    refine lm_val 29 (by kernel_rfl) (fun w1 c1 => (op_fieldL (m := 3) (k := 3) rfl (by kernel_rfl) rfl)) ?_
    refine lm_val 30 (by kernel_rfl) (fun w1 c1 => (op_load rfl (by kernel_rfl) (c1.cell 0 (u := .int .i64 _) rfl rfl))) ?_
    refine lm_call 31 (V := (fun (r : (List Int) × Int) (u : (Option Addr) × Nat × Nat) => .tuple #[.slice u.1 u.2.1 u.2.2, .int .i64 r.2])) (HR := (fun (r : (List Int) × Int) (u : (Option Addr) × Nat × Nat) => [ownE 3 1 encI u.1 u.2.1 u.2.2 r.1])) (by kernel_rfl) (fun w1 => op_call (by kernel_rfl)) (fun r1 hr1 w1 c1 => m_emptying_Of_ok N w1 p0 p1 p2.Household p2.When p2.Gap A_p0 n_p0 c_p0 A_p1 n_p1 c_p1 (hr_p0.old c1) hz_p0 (hr_p1.old c1) hz_p1 r1 hr1) ?_
    intro r8 u9
    refine lm_val 22 (by kernel_rfl) (fun w1 c1 => (op_move (v := .tuple _) rfl)) ?_
    refine lm_val 32 (by kernel_rfl) (fun w1 c1 => (op_extract (v := .slice _ _ _) rfl rfl)) ?_
    refine lm_val 33 (by kernel_rfl) (fun w1 c1 => (op_extract (v := .int .i64 _) rfl rfl)) ?_
    refine lm_val 7 (by kernel_rfl) (fun w1 c1 => (op_assign (v := .slice _ _ _) rfl)) ?_
    refine lm_val 8 (by kernel_rfl) (fun w1 c1 => (op_assign (v := .int .i64 _) rfl)) ?_
    refine lm_nil ?_
    refine xm_next ?_
    refine cm_seq ?_
    refine cm_seq ?_
    refine cm_region ?_
    refine lm_val 34 (by kernel_rfl) (fun w1 c1 => (op_move (v := .int .i64 _) rfl)) ?_
    refine lm_val 35 (by kernel_rfl) (fun w1 c1 => (op_neq rfl rfl)) ?_
    refine lm_nil ?_
    refine xm_next ?_
    refine cm_cond (by kernel_rfl) rfl (fun h10 => ?_) (fun h10 => ?_)
    · skip
      refine cm_seq ?_
      refine cm_callIf fun r11 h12 => ?_
      refine cm_cutE [(6, .bool ((decide ((List.length r8.1 : Int) = 0)) && r11))] ?_ ?_
      · skip
        refine wq_val 36 (by kernel_rfl) (fun w1 c1 => (op_move (v := .slice _ _ _) rfl)) ?_
        refine wq_val 37 (by kernel_rfl) (fun w1 c1 => (op_lenN rfl (by kernel_rfl) (c1.ownZ 0 rfl).2.2)) ?_
        refine wq_dec 38 (by kernel_rfl) (fun w1 c1 => (op_eql rfl rfl)) (fun h13 => ?_) (fun h13 => ?_)
        · skip
          refine wq_val 39 (by kernel_rfl) (fun w1 c1 => (op_move (v := .bool true) rfl)) ?_
          refine wq_call 40 (by kernel_rfl) (fun w1 c1 => op_call (by kernel_rfl)) (fun w1 c1 => (m_recyclinglaw18_awake_ok N w1   r11 (h12 (by rw [decide_eq_true h13] <;> rfl))).mono (fun _ _ ⟨_, hx, hu⟩ => ⟨hx, c1.call hu⟩)) ?_
          refine wq_val 41 (by kernel_rfl) (fun w1 c1 => (op_pick_t (v := .bool _) rfl rfl)) ?_
          refine wq_val 6 (by kernel_rfl) (fun w1 c1 => (op_assign (v := .bool _) rfl)) ?_
          exact leaf_q (sub_out 7 _ rfl (by kernel_rfl) ⟨(congrArg Value.bool (by rw [decide_eq_true h13] <;> rfl)), trivial⟩)
        · skip
          refine wq_val 39 (by kernel_rfl) (fun w1 c1 => (op_move (v := .bool false) rfl)) ?_
          refine wq_skip 40 (by kernel_rfl) ?_
          refine wq_val 41 (by kernel_rfl) (fun w1 c1 => (op_pick_f (v := .bool false) rfl rfl)) ?_
          refine wq_val 6 (by kernel_rfl) (fun w1 c1 => (op_assign (v := .bool false) rfl)) ?_
          exact leaf_q (sub_out 7 _ rfl (by kernel_rfl) ⟨(congrArg Value.bool (by rw [decide_eq_false h13] <;> rfl)), trivial⟩)
      refine xm_next ?_
      refine cm_ret ?_
      refine xm_thenR ?_
      exact xm_retT rfl (by kernel_rfl) (show _ = Value.bool _ from rfl) fun w1 c1 => ⟨(), rfl, hsub [] (by kernel_rfl) rfl w1 c1⟩
    · skip
      refine cm_skip ?_
      refine xm_next ?_
      refine cm_seq ?_
      refine cm_region ?_
      refine lm_val 42 (by kernel_rfl) (fun w1 c1 => (op_fieldL (m := 1) (k := 1) rfl (by kernel_rfl) rfl)) ?_
      refine lm_val 43 (by kernel_rfl) (fun w1 c1 => (op_fieldL (m := 0) (k := 1) rfl (by kernel_rfl) rfl)) ?_
      refine lm_val 44 (by kernel_rfl) (fun w1 c1 => (op_load rfl (by kernel_rfl) (c1.cell 1 (u := .int .i64 _) rfl rfl))) ?_
      refine lm_val 45 (by kernel_rfl) (fun w1 c1 => (op_fieldL (m := 1) (k := 1) rfl (by kernel_rfl) rfl)) ?_
      refine lm_val 46 (by kernel_rfl) (fun w1 c1 => (op_fieldL (m := 1) (k := 2) rfl (by kernel_rfl) rfl)) ?_
      refine lm_val 47 (by kernel_rfl) (fun w1 c1 => (op_load rfl (by kernel_rfl) (c1.cell 1 (u := .int .i64 _) rfl rfl))) ?_
      refine lm_val 48 (by kernel_rfl) (fun w1 c1 => (op_fieldL (m := 1) (k := 1) rfl (by kernel_rfl) rfl)) ?_
      refine lm_val 49 (by kernel_rfl) (fun w1 c1 => (op_fieldL (m := 0) (k := 1) rfl (by kernel_rfl) rfl)) ?_
      refine lm_val 50 (by kernel_rfl) (fun w1 c1 => (op_load rfl (by kernel_rfl) (c1.cell 1 (u := .int .i64 _) rfl rfl))) ?_
      refine lm_ck (fun h14 => ?_)
      refine lm_val 51 (by kernel_rfl) (fun w1 c1 => (op_sub rfl rfl h14)) ?_
      refine lm_ck (fun h15 => ?_)
      refine lm_val 52 (by kernel_rfl) (fun w1 c1 => (op_quoK rfl rfl (by kernel_rfl) h15)) ?_
      refine lm_ck (fun h16 => ?_)
      refine lm_val 53 (by kernel_rfl) (fun w1 c1 => (op_add rfl rfl h16)) ?_
      refine lm_val 9 (by kernel_rfl) (fun w1 c1 => (op_assign (v := .int .i64 _) rfl)) ?_
      refine lm_nil ?_
      refine xm_next ?_
      refine cm_join (σ := Int) (ξ := Unit) (fun s23 u24 => [(0, .slice A_p0 n_p0 c_p0), (1, .slice A_p1 n_p1 c_p1), (5, .pointer (some ⟨b1, 0, none⟩)), (7, .slice u9.1 u9.2.1 u9.2.2), (9, .int .i64 s23)]) (fun s23 u24 => [blkE b1 37 [.int .i64 p2.Household, .int .i64 p2.When.From, .int .i64 p2.When.To, .int .i64 p2.Gap], ownE 3 1 encI u9.1 u9.2.1 u9.2.2 r8.1]) ?_ ?_
      · skip
        refine cm_seq ?_
        refine cm_ck (fun h25 => ?_)
        refine cm_ck (fun h26 => ?_)
        refine cm_drawn [(76, .bool (((decide (0 < (List.length p0 : Int))) && (decide (p2.When.From ≤ (ix p0 0).At))) && (decide ((ix p0 0).At < p2.When.To))))] (by kernel_rfl) (by kernel_rfl) ?_ ?_
        · skip
          refine wq_val 54 (by kernel_rfl) (fun w1 c1 => (op_move (v := .slice _ _ _) rfl)) ?_
          refine wq_val 55 (by kernel_rfl) (fun w1 c1 => (op_lenN rfl (by kernel_rfl) hz_p0.2.2)) ?_
          refine wq_dec 56 (by kernel_rfl) (fun w1 c1 => (op_gtr rfl rfl)) (fun h27 => ?_) (fun h27 => ?_)
          · skip
            refine wq_val 57 (by kernel_rfl) (fun w1 c1 => (op_move (v := .bool true) rfl)) ?_
            refine wq_val 58 (by kernel_rfl) (fun w1 c1 => (op_fieldL (m := 1) (k := 1) rfl (by kernel_rfl) rfl)) ?_
            refine wq_val 59 (by kernel_rfl) (fun w1 c1 => (op_fieldL (m := 0) (k := 1) rfl (by kernel_rfl) rfl)) ?_
            refine wq_val 60 (by kernel_rfl) (fun w1 c1 => (op_load rfl (by kernel_rfl) (c1.cell 1 (u := .int .i64 _) rfl rfl))) ?_
            refine wq_val 61 (by kernel_rfl) (fun w1 c1 => (op_move (v := .slice _ _ _) rfl)) ?_
            refine wq_val 62 (by kernel_rfl) (fun w1 c1 => (op_indexA 7 rfl rfl (by kernel_rfl) ((hr_p0.old c1).addr (h25 (by rw [decide_eq_true h27] <;> rfl)).1 (h25 (by rw [decide_eq_true h27] <;> rfl)).2) hz_p0.2.2 (h25 (by rw [decide_eq_true h27] <;> rfl)).1 (h25 (by rw [decide_eq_true h27] <;> rfl)).2)) ?_
            refine wq_val 63 (by kernel_rfl) (fun w1 c1 => (op_field (m := 3) rfl (by kernel_rfl))) ?_
            refine wq_val 64 (by kernel_rfl) (fun w1 c1 => (op_load (v := .int .i64 ((ix p0 0).At)) rfl (by kernel_rfl) ((hr_p0.old c1).cell (j := 3) (h25 (by rw [decide_eq_true h27] <;> rfl)).1 (h25 (by rw [decide_eq_true h27] <;> rfl)).2 rfl))) ?_
            refine wq_dec 65 (by kernel_rfl) (fun w1 c1 => (op_leq rfl rfl)) (fun h28 => ?_) (fun h28 => ?_)
            · skip
              refine wq_val 66 (by kernel_rfl) (fun w1 c1 => (op_pick_t (v := .bool true) rfl rfl)) ?_
              refine wq_val 67 (by kernel_rfl) (fun w1 c1 => (op_move (v := .bool true) rfl)) ?_
              refine wq_val 68 (by kernel_rfl) (fun w1 c1 => (op_move (v := .slice _ _ _) rfl)) ?_
              refine wq_val 69 (by kernel_rfl) (fun w1 c1 => (op_indexA 7 rfl rfl (by kernel_rfl) ((hr_p0.old c1).addr (h26 (by rw [decide_eq_true h27, decide_eq_true h28] <;> rfl)).1 (h26 (by rw [decide_eq_true h27, decide_eq_true h28] <;> rfl)).2) hz_p0.2.2 (h26 (by rw [decide_eq_true h27, decide_eq_true h28] <;> rfl)).1 (h26 (by rw [decide_eq_true h27, decide_eq_true h28] <;> rfl)).2)) ?_
              refine wq_val 70 (by kernel_rfl) (fun w1 c1 => (op_field (m := 3) rfl (by kernel_rfl))) ?_
              refine wq_val 71 (by kernel_rfl) (fun w1 c1 => (op_load (v := .int .i64 ((ix p0 0).At)) rfl (by kernel_rfl) ((hr_p0.old c1).cell (j := 3) (h26 (by rw [decide_eq_true h27, decide_eq_true h28] <;> rfl)).1 (h26 (by rw [decide_eq_true h27, decide_eq_true h28] <;> rfl)).2 rfl))) ?_
              refine wq_val 72 (by kernel_rfl) (fun w1 c1 => (op_fieldL (m := 1) (k := 1) rfl (by kernel_rfl) rfl)) ?_
              refine wq_val 73 (by kernel_rfl) (fun w1 c1 => (op_fieldL (m := 1) (k := 2) rfl (by kernel_rfl) rfl)) ?_
              refine wq_val 74 (by kernel_rfl) (fun w1 c1 => (op_load rfl (by kernel_rfl) (c1.cell 1 (u := .int .i64 _) rfl rfl))) ?_
              refine wq_val 75 (by kernel_rfl) (fun w1 c1 => (op_lss rfl rfl)) ?_
              refine wq_val 76 (by kernel_rfl) (fun w1 c1 => (op_pick_t (v := .bool _) rfl rfl)) ?_
              exact leaf_q (sub_out 23 _ rfl (by kernel_rfl) ⟨(congrArg Value.bool (by rw [decide_eq_true h27, decide_eq_true h28] <;> rfl)), trivial⟩)
            · skip
              refine wq_val 66 (by kernel_rfl) (fun w1 c1 => (op_pick_t (v := .bool false) rfl rfl)) ?_
              refine wq_val 67 (by kernel_rfl) (fun w1 c1 => (op_move (v := .bool false) rfl)) ?_
              refine wq_skip 68 (by kernel_rfl) ?_
              refine wq_skip 69 (by kernel_rfl) ?_
              refine wq_skip 70 (by kernel_rfl) ?_
              refine wq_skip 71 (by kernel_rfl) ?_
              refine wq_skip 72 (by kernel_rfl) ?_
              refine wq_skip 73 (by kernel_rfl) ?_
              refine wq_skip 74 (by kernel_rfl) ?_
              refine wq_skip 75 (by kernel_rfl) ?_
              refine wq_val 76 (by kernel_rfl) (fun w1 c1 => (op_pick_f (v := .bool false) rfl rfl)) ?_
              exact leaf_q (sub_out 23 _ rfl (by kernel_rfl) ⟨(congrArg Value.bool (by rw [decide_eq_true h27, decide_eq_false h28] <;> rfl)), trivial⟩)
          · skip
            refine wq_val 57 (by kernel_rfl) (fun w1 c1 => (op_move (v := .bool false) rfl)) ?_
            refine wq_skip 58 (by kernel_rfl) ?_
            refine wq_skip 59 (by kernel_rfl) ?_
            refine wq_skip 60 (by kernel_rfl) ?_
            refine wq_skip 61 (by kernel_rfl) ?_
            refine wq_skip 62 (by kernel_rfl) ?_
            refine wq_skip 63 (by kernel_rfl) ?_
            refine wq_skip 64 (by kernel_rfl) ?_
            refine wq_skip 65 (by kernel_rfl) ?_
            refine wq_val 66 (by kernel_rfl) (fun w1 c1 => (op_pick_f (v := .bool false) rfl rfl)) ?_
            refine wq_val 67 (by kernel_rfl) (fun w1 c1 => (op_move (v := .bool false) rfl)) ?_
            refine wq_skip 68 (by kernel_rfl) ?_
            refine wq_skip 69 (by kernel_rfl) ?_
            refine wq_skip 70 (by kernel_rfl) ?_
            refine wq_skip 71 (by kernel_rfl) ?_
            refine wq_skip 72 (by kernel_rfl) ?_
            refine wq_skip 73 (by kernel_rfl) ?_
            refine wq_skip 74 (by kernel_rfl) ?_
            refine wq_skip 75 (by kernel_rfl) ?_
            refine wq_val 76 (by kernel_rfl) (fun w1 c1 => (op_pick_f (v := .bool false) rfl rfl)) ?_
            exact leaf_q (sub_out 23 _ rfl (by kernel_rfl) ⟨(congrArg Value.bool (by rw [decide_eq_false h27] <;> rfl)), trivial⟩)
        refine xm_next ?_
        refine cm_condB (by kernel_rfl) rfl (fun h29 => ?_) (fun h29 => ?_)
        · skip
          refine cm_region ?_
          refine lm_val 77 (by kernel_rfl) (fun w1 c1 => (op_move (v := .slice _ _ _) rfl)) ?_
          refine lm_ck (fun h30 => ?_)
          refine lm_val 78 (by kernel_rfl) (fun w1 c1 => (op_indexA 7 rfl rfl (by kernel_rfl) ((hr_p0.old c1).addr h30.1 h30.2) hz_p0.2.2 h30.1 h30.2)) ?_
          refine lm_val 79 (by kernel_rfl) (fun w1 c1 => (op_field (m := 3) rfl (by kernel_rfl))) ?_
          refine lm_val 80 (by kernel_rfl) (fun w1 c1 => (op_load (v := .int .i64 ((ix p0 0).At)) rfl (by kernel_rfl) ((hr_p0.old c1).cell (j := 3) h30.1 h30.2 rfl))) ?_
          refine lm_val 9 (by kernel_rfl) (fun w1 c1 => (op_assign (v := .int .i64 _) rfl)) ?_
          refine lm_nil ?_
          exact xm_lnext () (sub_cons (by kernel_rfl) rfl (sub_cons (by kernel_rfl) rfl (sub_cons (by kernel_rfl) rfl (sub_cons (by kernel_rfl) rfl (sub_cons (by kernel_rfl) rfl sub_nil))))) (hsub [1, 0] (by kernel_rfl) rfl)
        · skip
          refine cm_skip ?_
          exact xm_lnext () (sub_cons (by kernel_rfl) rfl (sub_cons (by kernel_rfl) rfl (sub_cons (by kernel_rfl) rfl (sub_cons (by kernel_rfl) rfl (sub_cons (by kernel_rfl) rfl sub_nil))))) (hsub [1, 0] (by kernel_rfl) rfl)
      intro s23 u24
      refine cm_seq ?_
      refine cm_region ?_
      refine lm_val 82 (by kernel_rfl) (fun w1 c1 => (op_move (v := .slice _ _ _) rfl)) ?_
      refine lm_val 83 (by kernel_rfl) (fun w1 c1 => (op_move (v := .slice _ _ _) rfl)) ?_
      refine lm_val 84 (by kernel_rfl) (fun w1 c1 => (op_fieldL (m := 0) (k := 0) rfl (by kernel_rfl) rfl)) ?_
      refine lm_val 85 (by kernel_rfl) (fun w1 c1 => (op_load rfl (by kernel_rfl) (c1.cell 0 (u := .int .i64 _) rfl rfl))) ?_
      refine lm_val 86 (by kernel_rfl) (fun w1 c1 => (op_fieldL (m := 1) (k := 1) rfl (by kernel_rfl) rfl)) ?_
      refine lm_val 87 (by kernel_rfl) (fun w1 c1 => (op_fieldL (m := 0) (k := 1) rfl (by kernel_rfl) rfl)) ?_
      refine lm_val 88 (by kernel_rfl) (fun w1 c1 => (op_load rfl (by kernel_rfl) (c1.cell 0 (u := .int .i64 _) rfl rfl))) ?_
      refine lm_val 89 (by kernel_rfl) (fun w1 c1 => (op_move (v := .int .i64 _) rfl)) ?_
      refine lm_val 90 (by kernel_rfl) (fun w1 c1 => (op_build (z := [.int .i64 0, .int .i64 0]) (tab := [(0, 1), (1, 1)]) (cs := [.int .i64 _, .int .i64 _]) [(0, [.int .i64 _]), (1, [.int .i64 _])] (by kernel_rfl) (by kernel_rfl) (fillOk_cons rfl rfl rfl (fillOk_cons rfl rfl rfl fillOk_nil)) rfl)) ?_
      refine lm_val 91 (by kernel_rfl) (fun w1 c1 => (op_fieldL (m := 3) (k := 3) rfl (by kernel_rfl) rfl)) ?_
      refine lm_val 92 (by kernel_rfl) (fun w1 c1 => (op_load rfl (by kernel_rfl) (c1.cell 0 (u := .int .i64 _) rfl rfl))) ?_
      refine lm_call 93 (V := (fun (r : (List Int) × Int) (u : (Option Addr) × Nat × Nat) => .tuple #[.slice u.1 u.2.1 u.2.2, .int .i64 r.2])) (HR := (fun (r : (List Int) × Int) (u : (Option Addr) × Nat × Nat) => [ownE 3 1 encI u.1 u.2.1 u.2.2 r.1])) (by kernel_rfl) (fun w1 => op_call (by kernel_rfl)) (fun r1 hr1 w1 c1 => m_emptying_Of_ok N w1 p0 p1 p2.Household (ApiWindow.mk p2.When.From s23) p2.Gap A_p0 n_p0 c_p0 A_p1 n_p1 c_p1 (hr_p0.old c1) hz_p0 (hr_p1.old c1) hz_p1 r1 hr1) ?_
      intro r31 u32
      refine lm_val 81 (by kernel_rfl) (fun w1 c1 => (op_move (v := .tuple _) rfl)) ?_
      refine lm_val 94 (by kernel_rfl) (fun w1 c1 => (op_extract (v := .slice _ _ _) rfl rfl)) ?_
      refine lm_val 95 (by kernel_rfl) (fun w1 c1 => (op_extract (v := .int .i64 _) rfl rfl)) ?_
      refine lm_val 10 (by kernel_rfl) (fun w1 c1 => (op_assign (v := .slice _ _ _) rfl)) ?_
      refine lm_val 11 (by kernel_rfl) (fun w1 c1 => (op_assign (v := .int .i64 _) rfl)) ?_
      refine lm_nil ?_
      refine xm_next ?_
      refine cm_seq ?_
      refine cm_region ?_
      refine lm_val 97 (by kernel_rfl) (fun w1 c1 => (op_move (v := .slice _ _ _) rfl)) ?_
      refine lm_val 98 (by kernel_rfl) (fun w1 c1 => (op_move (v := .slice _ _ _) rfl)) ?_
      refine lm_val 99 (by kernel_rfl) (fun w1 c1 => (op_fieldL (m := 0) (k := 0) rfl (by kernel_rfl) rfl)) ?_
      refine lm_val 100 (by kernel_rfl) (fun w1 c1 => (op_load rfl (by kernel_rfl) (c1.cell 1 (u := .int .i64 _) rfl rfl))) ?_
      refine lm_val 101 (by kernel_rfl) (fun w1 c1 => (op_move (v := .int .i64 _) rfl)) ?_
      refine lm_val 102 (by kernel_rfl) (fun w1 c1 => (op_fieldL (m := 1) (k := 1) rfl (by kernel_rfl) rfl)) ?_
      refine lm_val 103 (by kernel_rfl) (fun w1 c1 => (op_fieldL (m := 1) (k := 2) rfl (by kernel_rfl) rfl)) ?_
      refine lm_val 104 (by kernel_rfl) (fun w1 c1 => (op_load rfl (by kernel_rfl) (c1.cell 1 (u := .int .i64 _) rfl rfl))) ?_
      refine lm_val 105 (by kernel_rfl) (fun w1 c1 => (op_build (z := [.int .i64 0, .int .i64 0]) (tab := [(0, 1), (1, 1)]) (cs := [.int .i64 _, .int .i64 _]) [(0, [.int .i64 _]), (1, [.int .i64 _])] (by kernel_rfl) (by kernel_rfl) (fillOk_cons rfl rfl rfl (fillOk_cons rfl rfl rfl fillOk_nil)) rfl)) ?_
      refine lm_val 106 (by kernel_rfl) (fun w1 c1 => (op_fieldL (m := 3) (k := 3) rfl (by kernel_rfl) rfl)) ?_
      refine lm_val 107 (by kernel_rfl) (fun w1 c1 => (op_load rfl (by kernel_rfl) (c1.cell 1 (u := .int .i64 _) rfl rfl))) ?_
      refine lm_call 108 (V := (fun (r : (List Int) × Int) (u : (Option Addr) × Nat × Nat) => .tuple #[.slice u.1 u.2.1 u.2.2, .int .i64 r.2])) (HR := (fun (r : (List Int) × Int) (u : (Option Addr) × Nat × Nat) => [ownE 3 1 encI u.1 u.2.1 u.2.2 r.1])) (by kernel_rfl) (fun w1 => op_call (by kernel_rfl)) (fun r1 hr1 w1 c1 => m_emptying_Of_ok N w1 p0 p1 p2.Household (ApiWindow.mk s23 p2.When.To) p2.Gap A_p0 n_p0 c_p0 A_p1 n_p1 c_p1 (hr_p0.old c1) hz_p0 (hr_p1.old c1) hz_p1 r1 hr1) ?_
      intro r33 u34
      refine lm_val 96 (by kernel_rfl) (fun w1 c1 => (op_move (v := .tuple _) rfl)) ?_
      refine lm_val 109 (by kernel_rfl) (fun w1 c1 => (op_extract (v := .slice _ _ _) rfl rfl)) ?_
      refine lm_val 110 (by kernel_rfl) (fun w1 c1 => (op_extract (v := .int .i64 _) rfl rfl)) ?_
      refine lm_val 12 (by kernel_rfl) (fun w1 c1 => (op_assign (v := .slice _ _ _) rfl)) ?_
      refine lm_val 13 (by kernel_rfl) (fun w1 c1 => (op_assign (v := .int .i64 _) rfl)) ?_
      refine lm_nil ?_
      refine xm_next ?_
      refine cm_seq ?_
      refine cm_region ?_
      refine lm_val 111 (by kernel_rfl) (fun w1 c1 => (op_move (v := .int .i64 _) rfl)) ?_
      refine lm_decM 112 (by kernel_rfl) (fun w1 c1 => (op_eql rfl rfl)) (fun h35 => ?_) (fun h35 => ?_)
      · skip
        refine lm_val 113 (by kernel_rfl) (fun w1 c1 => (op_move (v := .bool true) rfl)) ?_
        refine lm_val 114 (by kernel_rfl) (fun w1 c1 => (op_move (v := .int .i64 _) rfl)) ?_
        refine lm_decM 115 (by kernel_rfl) (fun w1 c1 => (op_eql rfl rfl)) (fun h36 => ?_) (fun h36 => ?_)
        · skip
          refine lm_val 116 (by kernel_rfl) (fun w1 c1 => (op_pick_t (v := .bool true) rfl rfl)) ?_
          refine lm_val 117 (by kernel_rfl) (fun w1 c1 => (op_move (v := .bool true) rfl)) ?_
          refine lm_slice0 118 (el := 3) (sz := 1) (bytes := 8) (enc := encI) (by kernel_rfl) (by kernel_rfl) ?_
          intro A37 n38 k39 h40
          refine lm_val 119 (by kernel_rfl) (fun w1 c1 => (op_move (v := .slice _ _ _) rfl)) ?_
          refine lm_ck (fun h41 => ?_)
          refine lm_append 120 0 (el := 3) (sz := 1) (bytes := 8) (enc := encI) (l2 := r31.1) (by kernel_rfl) (by kernel_rfl) encI_len encI_one rfl rfl rfl (fun w1 c1 => (c1.ownZ 2 rfl)) (fun w1 c1 => (c1.own 2 rfl encI_len)) h41 ?_ (by kernel_rfl)
          intro A42 n43 k44
          refine lm_val 121 (by kernel_rfl) (fun w1 c1 => (op_move (v := .slice _ _ _) rfl)) ?_
          refine lm_ck (fun h45 => ?_)
          refine lm_append 122 0 (el := 3) (sz := 1) (bytes := 8) (enc := encI) (l2 := r33.1) (by kernel_rfl) (by kernel_rfl) encI_len encI_one rfl rfl rfl (fun w1 c1 => (c1.ownZ 1 rfl)) (fun w1 c1 => (c1.own 1 rfl encI_len)) h45 ?_ (by kernel_rfl)
          intro A46 n47 k48
          refine lm_val 123 (by kernel_rfl) (fun w1 c1 => (op_move (v := .slice _ _ _) rfl)) ?_
          refine lm_call 124 (V := (fun (r : Bool) (_u : Unit) => .bool r)) (HR := (fun (_r : Bool) (_u : Unit) => [])) (by kernel_rfl) (fun w1 => op_call (by kernel_rfl)) (fun r1 hr1 w1 c1 => m_recyclingref18_Same_ok N w1 ((([] : List Int) ++ r31.1) ++ r33.1) r8.1 A46 n47 k48 u9.1 u9.2.1 u9.2.2 (c1.own 0 rfl encI_len) (c1.ownZ 0 rfl) (c1.own 4 rfl encI_len) (c1.ownZ 4 rfl) r1 hr1) ?_
          intro r49 u50
          cases r49
          · show Lm _ _ _ _ _ _ (if false = true then _ else _) _ _
            simp only [Bool.false_eq_true, if_false]
            refine lm_val 125 (by kernel_rfl) (fun w1 c1 => (op_pick_t (v := .bool false) rfl rfl)) ?_
            refine lm_val 126 (by kernel_rfl) (fun w1 c1 => (op_move (v := .bool false) rfl)) ?_
            refine lm_skip 127 (by kernel_rfl) ?_
            refine lm_val 128 (by kernel_rfl) (fun w1 c1 => (op_pick_f (v := .bool false) rfl rfl)) ?_
            refine lm_val 6 (by kernel_rfl) (fun w1 c1 => (op_assign (v := .bool false) rfl)) ?_
            refine lm_nil ?_
            refine xm_next ?_
            refine cm_ret ?_
            exact xm_retT rfl (by kernel_rfl) (show _ = Value.bool false from rfl) fun w1 c1 => ⟨(), rfl, hsub [] (by kernel_rfl) rfl w1 c1⟩
          · show Lm _ _ _ _ _ _ (if true = true then _ else _) _ _
            simp only [if_true]
            refine lm_val 125 (by kernel_rfl) (fun w1 c1 => (op_pick_t (v := .bool true) rfl rfl)) ?_
            refine lm_val 126 (by kernel_rfl) (fun w1 c1 => (op_move (v := .bool true) rfl)) ?_
            refine lm_call 127 (V := (fun (r : Bool) (_u : Unit) => .bool r)) (HR := (fun (_r : Bool) (_u : Unit) => [])) (by kernel_rfl) (fun w1 => op_call (by kernel_rfl)) (fun r1 hr1 w1 c1 => m_recyclinglaw18_awake_ok N w1   r1 hr1) ?_
            intro r51 u52
            refine lm_val 128 (by kernel_rfl) (fun w1 c1 => (op_pick_t (v := .bool _) rfl rfl)) ?_
            refine lm_val 6 (by kernel_rfl) (fun w1 c1 => (op_assign (v := .bool _) rfl)) ?_
            refine lm_nil ?_
            refine xm_next ?_
            refine cm_ret ?_
            exact xm_retT rfl (by kernel_rfl) (show _ = Value.bool _ from rfl) fun w1 c1 => ⟨(), rfl, hsub [] (by kernel_rfl) rfl w1 c1⟩
        · skip
          refine lm_val 116 (by kernel_rfl) (fun w1 c1 => (op_pick_t (v := .bool false) rfl rfl)) ?_
          refine lm_val 117 (by kernel_rfl) (fun w1 c1 => (op_move (v := .bool false) rfl)) ?_
          refine lm_skip 118 (by kernel_rfl) ?_
          refine lm_skip 119 (by kernel_rfl) ?_
          refine lm_skip 120 (by kernel_rfl) ?_
          refine lm_skip 121 (by kernel_rfl) ?_
          refine lm_skip 122 (by kernel_rfl) ?_
          refine lm_skip 123 (by kernel_rfl) ?_
          refine lm_skip 124 (by kernel_rfl) ?_
          refine lm_val 125 (by kernel_rfl) (fun w1 c1 => (op_pick_f (v := .bool false) rfl rfl)) ?_
          refine lm_val 126 (by kernel_rfl) (fun w1 c1 => (op_move (v := .bool false) rfl)) ?_
          refine lm_skip 127 (by kernel_rfl) ?_
          refine lm_val 128 (by kernel_rfl) (fun w1 c1 => (op_pick_f (v := .bool false) rfl rfl)) ?_
          refine lm_val 6 (by kernel_rfl) (fun w1 c1 => (op_assign (v := .bool false) rfl)) ?_
          refine lm_nil ?_
          refine xm_next ?_
          refine cm_ret ?_
          exact xm_retT rfl (by kernel_rfl) (show _ = Value.bool false from rfl) fun w1 c1 => ⟨(), rfl, hsub [] (by kernel_rfl) rfl w1 c1⟩
      · skip
        refine lm_val 113 (by kernel_rfl) (fun w1 c1 => (op_move (v := .bool false) rfl)) ?_
        refine lm_skip 114 (by kernel_rfl) ?_
        refine lm_skip 115 (by kernel_rfl) ?_
        refine lm_val 116 (by kernel_rfl) (fun w1 c1 => (op_pick_f (v := .bool false) rfl rfl)) ?_
        refine lm_val 117 (by kernel_rfl) (fun w1 c1 => (op_move (v := .bool false) rfl)) ?_
        refine lm_skip 118 (by kernel_rfl) ?_
        refine lm_skip 119 (by kernel_rfl) ?_
        refine lm_skip 120 (by kernel_rfl) ?_
        refine lm_skip 121 (by kernel_rfl) ?_
        refine lm_skip 122 (by kernel_rfl) ?_
        refine lm_skip 123 (by kernel_rfl) ?_
        refine lm_skip 124 (by kernel_rfl) ?_
        refine lm_val 125 (by kernel_rfl) (fun w1 c1 => (op_pick_f (v := .bool false) rfl rfl)) ?_
        refine lm_val 126 (by kernel_rfl) (fun w1 c1 => (op_move (v := .bool false) rfl)) ?_
        refine lm_skip 127 (by kernel_rfl) ?_
        refine lm_val 128 (by kernel_rfl) (fun w1 c1 => (op_pick_f (v := .bool false) rfl rfl)) ?_
        refine lm_val 6 (by kernel_rfl) (fun w1 c1 => (op_assign (v := .bool false) rfl)) ?_
        refine lm_nil ?_
        refine xm_next ?_
        refine cm_ret ?_
        exact xm_retT rfl (by kernel_rfl) (show _ = Value.bool false from rfl) fun w1 c1 => ⟨(), rfl, hsub [] (by kernel_rfl) rfl w1 c1⟩
end Go.Proofs.Ytkepegnnkmmefaa
