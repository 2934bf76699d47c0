/- Models of functions, and that the code follows them. Written by deco.py. -/
import Derived.Test.YtkepegnnkmmefaaEmp3
namespace Go.Proofs.Ytkepegnnkmmefaa
open Go.RowKit

theorem op_eqApiSpan {e : Env} {w : World} {d : Option Tmp} {ty : TypeId} {ps : String} {af : Array Edge} {g : Option (Nat × Bool)} {x y : Operand} (a b : ApiSpan) (hx : eev e x = .agg (encApiSpan a).toArray) (hy : eev e y = .agg (encApiSpan b).toArray) : OpV Try.prog e w ⟨d, .binOp .eql 41 x y 41, ty, ps, af, g⟩ (.bool (decide (a = b))) :=
  op_eqFlat (cs := encApiSpan a) (ds := encApiSpan b) hx hy Try.underlying41 (by kernel_rfl) (by kernel_rfl) (by kernel_rfl) (by cases a; cases b; simp [celsEq, celEq, encApiSpan])
/-- recyclinglaw18.records -/
def m_recyclinglaw18_records (N : Nat) (p0 : (List Int)) : Option ((List ApiEmptying)) :=
  (andThen
    (loopM (fun (s73 : (List ApiEmptying) × Int) =>
      (if s73.2 < (List.length p0 : Int) then
        ck (I64 (s73.2 + (1 : Int))) (
          ck ((0 : Int) ≤ s73.2 ∧ s73.2 < (List.length p0 : Int)) (
            ck ((List.length s73.1 + List.length ([(ApiEmptying.mk (s73.2 + (1 : Int)) 0 0 (ix p0 s73.2) (ApiSpan.mk 10 12) false)])) * 56 ≤ 140737488355328) (
              ck (I64 (s73.2 + (1 : Int))) (
                some (.next ((s73.1 ++ ([(ApiEmptying.mk (s73.2 + (1 : Int)) 0 0 (ix p0 s73.2) (ApiSpan.mk 10 12) false)])), (s73.2 + (1 : Int))))))))
      else
        some (.done (.next s73.1)))) N (([] : List ApiEmptying), (0 : Int)))
  fun (s43 : (List ApiEmptying)) =>
    some (s43))
set_option maxRecDepth 20000 in
theorem m_recyclinglaw18_records_ok (N : Nat) (w0 : World) (p0 : (List Int)) (A_p0 : Option Addr) (n_p0 c_p0 : Nat) (hr_p0 : RdE w0 1 encI A_p0 p0) (hz_p0 : SW A_p0 n_p0 c_p0 (List.length p0)) (r : (List ApiEmptying)) (hr : m_recyclinglaw18_records N p0 = some r) :
    Calls Try.prog 22 [.slice A_p0 n_p0 c_p0].toArray w0 fun x w1 => ∃ u, x = .returned ((fun (_r : (List ApiEmptying)) (u : (Option Addr) × Nat × Nat) => .slice u.1 u.2.1 u.2.2) r u) ∧ Hs w0 ((fun (r : (List ApiEmptying)) (u : (Option Addr) × Nat × Nat) => [ownE 47 7 encApiEmptying u.1 u.2.1 u.2.2 r]) r u) w1 := by
  refine calls_cm (n := 23) (R := fun r x w1 => ∃ u, x = .returned ((fun (_r : (List ApiEmptying)) (u : (Option Addr) × Nat × Nat) => .slice u.1 u.2.1 u.2.2) r u) ∧ Hs w0 ((fun (r : (List ApiEmptying)) (u : (Option Addr) × Nat × Nat) => [ownE 47 7 encApiEmptying u.1 u.2.1 u.2.2 r]) r u) w1) Try.func22 rfl rfl (Nat.le_of_ble_eq_true rfl) ?_ r hr
  unfold m_recyclinglaw18_records
  refine cm_seq ?_
  refine cm_region ?_
  refine lm_val 2 (by kernel_rfl) (fun w1 c1 => (op_assign (v := .slice _ _ _) rfl)) ?_
  refine lm_nil ?_
  refine xm_next ?_
  refine cm_seq ?_
  refine cm_region ?_
  refine lm_val 3 (by kernel_rfl) (fun w1 c1 => (op_assign (v := .slice _ _ _) rfl)) ?_
  refine lm_nil ?_
  refine xm_next ?_
  refine cm_join (σ := (List ApiEmptying)) (ξ := (Option Addr) × Nat × Nat) (fun s43 u44 => [(3, .slice u44.1 u44.2.1 u44.2.2)]) (fun s43 u44 => [ownE 47 7 encApiEmptying u44.1 u44.2.1 u44.2.2 s43]) ?_ ?_
  · skip
    refine cm_seq ?_
    refine cm_region ?_
    refine lm_val 4 (by kernel_rfl) (fun w1 c1 => (op_assign (v := .int .i64 _) rfl)) ?_
    refine lm_nil ?_
    refine xm_next ?_
    refine cm_block ?_
    refine cm_nilrow 47 7 encApiEmptying ?_
    refine cm_loop (σ := (List ApiEmptying) × Int) (ξ := (Option Addr) × Nat × Nat) (fun s73 u74 => [(0, .slice A_p0 n_p0 c_p0), (3, .slice u74.1 u74.2.1 u74.2.2), (4, .int .i64 s73.2)]) (fun s73 u74 => [ownE 47 7 encApiEmptying u74.1 u74.2.1 u74.2.2 s73.1]) (none, 0, 0) ?_ ?_ ?_
    · exact (sub_cons (by kernel_rfl) rfl (sub_cons (by kernel_rfl) rfl (sub_cons (by kernel_rfl) rfl sub_nil)))
    · exact hsub [0] (by kernel_rfl) rfl
    intro s73 u74
    refine cm_seq ?_
    refine cm_seq ?_
    refine cm_region ?_
    refine lm_val 5 (by kernel_rfl) (fun w1 c1 => (op_move (v := .int .i64 _) rfl)) ?_
    refine lm_val 6 (by kernel_rfl) (fun w1 c1 => (op_move (v := .slice _ _ _) rfl)) ?_
    refine lm_val 7 (by kernel_rfl) (fun w1 c1 => (op_lenN rfl (by kernel_rfl) hz_p0.2.2)) ?_
    refine lm_val 8 (by kernel_rfl) (fun w1 c1 => (op_lss rfl rfl)) ?_
    refine lm_nil ?_
    refine xm_next ?_
    refine cm_cond (by kernel_rfl) rfl (fun h75 => ?_) (fun h75 => ?_)
    · skip
      refine cm_skip ?_
      refine xm_next ?_
      refine cm_seq ?_
      refine cm_block ?_
      refine cm_region ?_
      refine lm_val 11 (by kernel_rfl) (fun w1 c1 => (op_move (v := .slice _ _ _) rfl)) ?_
      refine lm_val 12 (by kernel_rfl) (fun w1 c1 => (op_move (v := .int .i64 _) rfl)) ?_
      refine lm_ck (fun h76 => ?_)
      refine lm_val 13 (by kernel_rfl) (fun w1 c1 => (op_add rfl rfl h76)) ?_
      refine lm_val 14 (by kernel_rfl) (fun w1 c1 => (op_move (v := .slice _ _ _) rfl)) ?_
      refine lm_val 15 (by kernel_rfl) (fun w1 c1 => (op_move (v := .int .i64 _) rfl)) ?_
      refine lm_ck (fun h77 => ?_)
      refine lm_val 16 (by kernel_rfl) (fun w1 c1 => (op_indexA 1 rfl rfl (by kernel_rfl) ((hr_p0.old c1).addr h77.1 h77.2) hz_p0.2.2 h77.1 h77.2)) ?_
      refine lm_val 17 (by kernel_rfl) (fun w1 c1 => (op_load (v := .int .i64 (ix p0 s73.2)) rfl (by kernel_rfl) ((hr_p0.old c1).cell0 h77.1 h77.2 rfl))) ?_
      refine lm_val 18 (by kernel_rfl) (fun w1 c1 => (op_build (z := [.int .i64 0, .int .i64 0]) (tab := [(0, 1), (1, 1)]) (cs := [.int .i64 _, .int .i64 _]) [(0, [.int .i64 _]), (1, [.int .i64 _])] (by kernel_rfl) (by kernel_rfl) (fillOk_cons rfl rfl rfl (fillOk_cons rfl rfl rfl fillOk_nil)) rfl)) ?_
      refine lm_val 19 (by kernel_rfl) (fun w1 c1 => (op_build (z := [.int .i64 0, .int .i64 0, .int .i64 0, .int .i64 0, .int .i64 0, .int .i64 0, .bool false]) (tab := [(0, 1), (1, 1), (2, 1), (3, 1), (4, 2), (6, 1)]) (cs := [.int .i64 _, .int .i64 _, .int .i64 _, .int .i64 _, .int .i64 _, .int .i64 _, .bool false]) [(0, [.int .i64 _]), (3, [.int .i64 _]), (4, [.int .i64 _, .int .i64 _])] (by kernel_rfl) (by kernel_rfl) (fillOk_cons rfl rfl rfl (fillOk_cons rfl rfl rfl (fillOk_cons rfl rfl rfl fillOk_nil))) rfl)) ?_
      refine lm_slice1 20 (el := 47) (sz := 7) (bytes := 56) (enc := encApiEmptying) (ApiEmptying.mk (s73.2 + (1 : Int)) 0 0 (ix p0 s73.2) (ApiSpan.mk 10 12) false) (by kernel_rfl) (by kernel_rfl) encApiEmptying_len rfl (by kernel_rfl) ?_
      intro A78 n79 k80 h81
      refine lm_ck (fun h82 => ?_)
      refine lm_append 21 1 (el := 47) (sz := 7) (bytes := 56) (enc := encApiEmptying) (l2 := ([(ApiEmptying.mk (s73.2 + (1 : Int)) 0 0 (ix p0 s73.2) (ApiSpan.mk 10 12) false)])) (by kernel_rfl) (by kernel_rfl) encApiEmptying_len encApiEmptying_one rfl rfl rfl (fun w1 c1 => (c1.ownZ 0 rfl)) (fun w1 c1 => (c1.own 0 rfl encApiEmptying_len)) h82 ?_ (by kernel_rfl)
      intro A83 n84 k85
      refine lm_val 3 (by kernel_rfl) (fun w1 c1 => (op_assign (v := .slice _ _ _) rfl)) ?_
      refine lm_nil ?_
      refine xm_inN ?_
      refine xm_next ?_
      refine cm_region ?_
      refine lm_val 9 (by kernel_rfl) (fun w1 c1 => (op_move (v := .int .i64 _) rfl)) ?_
      refine lm_ck (fun h86 => ?_)
      refine lm_val 10 (by kernel_rfl) (fun w1 c1 => (op_add rfl rfl h86)) ?_
      refine lm_val 4 (by kernel_rfl) (fun w1 c1 => (op_assign (v := .int .i64 _) rfl)) ?_
      refine lm_nil ?_
      exact xm_lnext (A83, n84, k85) (sub_cons (by kernel_rfl) rfl (sub_cons (by kernel_rfl) rfl (sub_cons (by kernel_rfl) rfl sub_nil))) (hsub [1] (by kernel_rfl) rfl)
    · skip
      refine cm_exit ?_
      refine xm_thenE ?_
      refine xm_lexit ?_
      refine xm_here ?_
      exact xm_lnext (u74.1, u74.2.1, u74.2.2) (sub_cons (by kernel_rfl) rfl sub_nil) (hsub [0] (by kernel_rfl) rfl)
  intro s43 u44
  refine cm_seq ?_
  refine cm_region ?_
  refine lm_val 22 (by kernel_rfl) (fun w1 c1 => (op_move (v := .slice _ _ _) rfl)) ?_
  refine lm_val 2 (by kernel_rfl) (fun w1 c1 => (op_assign (v := .slice _ _ _) rfl)) ?_
  refine lm_nil ?_
  refine xm_next ?_
  refine cm_ret ?_
  exact xm_retT rfl (by kernel_rfl) (show _ = Value.slice _ _ _ from rfl) fun w1 c1 => ⟨(u44.1, u44.2.1, u44.2.2), rfl, hsub [0] (by kernel_rfl) rfl w1 c1⟩
/-- recyclinglaw18.awake -/
def m_recyclinglaw18_awake (N : Nat)  : Option (Bool) :=
  Option.bind (m_recyclinglaw18_records N ([(1000 : Int), (1060 : Int), (1120 : Int), (1121 : Int)])) fun r5 => Option.bind (m_emptying_Counts N r5 (120 : Int)) fun r7 => Option.bind (m_emptying_Mass N r5 (0 : Int) (ApiWindow.mk 1000 1121)) fun r9 => Option.bind (m_emptying_Of N r5 ([(ApiAssign.mk 0 4 (ApiWindow.mk 0 1121))]) (4 : Int) (ApiWindow.mk 0 2000) (120 : Int)) fun r16 => ck ((0 : Int) ≤ 0 ∧ 0 < (List.length r5 : Int)) (
    Option.bind (m_emptying_Counts N (List.set r5 (Int.toNat 0) (ApiEmptying.mk ((ix r5 0).ID) ((ix r5 0).Container) ((ix r5 0).Vehicle) ((ix r5 0).At) ((ix r5 0).Mass) true)) (120 : Int)) fun r19 => (if r7.2 = 0 then
      Option.bind (m_recyclingref18_Same N r7.1 ([(0 : Int), (3 : Int)])) fun r26 => (if r26 = true then
        (if r9.2 = 0 then
          (if r9.1 = (ApiSpan.mk 30 36) then
            (if r16.2 = 0 then
              Option.bind (m_recyclingref18_Same N r16.1 ([(0 : Int)])) fun r35 => (if r35 = true then
                (if r19.2 = 0 then
                  Option.bind (m_recyclingref18_Same N r19.1 ([(1 : Int)])) fun r42 => (if r42 = true then
                    Option.bind (m_emptying_Check N (List.set r5 (Int.toNat 0) (ApiEmptying.mk ((ix r5 0).ID) ((ix r5 0).Container) ((ix r5 0).Vehicle) ((ix r5 0).At) ((ix r5 0).Mass) true)) (1 : Int) (1 : Int)) fun r44 => some ((decide (r44 = 0)))
                  else
                    some (false))
                else
                  some (false))
              else
                some (false))
            else
              some (false))
          else
            some (false))
        else
          some (false))
      else
        some (false))
    else
      some (false)))
set_option maxRecDepth 20000 in
theorem m_recyclinglaw18_awake_ok (N : Nat) (w0 : World)    (r : Bool) (hr : m_recyclinglaw18_awake N  = some r) :
    Calls Try.prog 12 [].toArray w0 fun x w1 => ∃ u, x = .returned ((fun (r : Bool) (_u : Unit) => .bool r) r u) ∧ Hs w0 ((fun (_r : Bool) (_u : Unit) => []) r u) w1 := by
  refine calls_cm (n := 81) (R := fun r x w1 => ∃ u, x = .returned ((fun (r : Bool) (_u : Unit) => .bool r) r u) ∧ Hs w0 ((fun (_r : Bool) (_u : Unit) => []) r u) w1) Try.func12 rfl rfl (Nat.le_of_ble_eq_true rfl) ?_ r hr
  unfold m_recyclinglaw18_awake
  refine cm_seq ?_
  refine cm_region ?_
  refine lm_val 0 (by kernel_rfl) (fun w1 c1 => (op_assign (v := .bool false) rfl)) ?_
  refine lm_nil ?_
  refine xm_next ?_
  refine cm_seq ?_
  refine cm_region ?_
  refine lm_sliceN 11 (el := 3) (sz := 1) (bytes := 8) (enc := encI) [(1000 : Int), (1060 : Int), (1120 : Int), (1121 : Int)] (by kernel_rfl) (by kernel_rfl) encI_len rfl ⟨rfl, rfl, ⟨rfl, rfl, ⟨rfl, rfl, ⟨rfl, rfl, trivial⟩⟩⟩⟩ (by kernel_rfl) (by kernel_rfl) ?_
  intro A1 n2 k3 h4
  refine lm_call 12 (V := (fun (_r : (List ApiEmptying)) (u : (Option Addr) × Nat × Nat) => .slice u.1 u.2.1 u.2.2)) (HR := (fun (r : (List ApiEmptying)) (u : (Option Addr) × Nat × Nat) => [ownE 47 7 encApiEmptying u.1 u.2.1 u.2.2 r])) (by kernel_rfl) (fun w1 => op_call (by kernel_rfl)) (fun r1 hr1 w1 c1 => m_recyclinglaw18_records_ok N w1 ([(1000 : Int), (1060 : Int), (1120 : Int), (1121 : Int)]) A1 n2 k3 (c1.own 0 rfl encI_len) (c1.ownZ 0 rfl) r1 hr1) ?_
  intro r5 u6
  refine lm_val 1 (by kernel_rfl) (fun w1 c1 => (op_assign (v := .slice _ _ _) rfl)) ?_
  refine lm_nil ?_
  refine xm_next ?_
  refine cm_seq ?_
  refine cm_region ?_
  refine lm_val 14 (by kernel_rfl) (fun w1 c1 => (op_move (v := .slice _ _ _) rfl)) ?_
  refine lm_call 15 (V := (fun (r : (List Int) × Int) (u : (Option Addr) × Nat × Nat) => .tuple #[.slice u.1 u.2.1 u.2.2, .int .i64 r.2])) (HR := (fun (r : (List Int) × Int) (u : (Option Addr) × Nat × Nat) => [ownE 3 1 encI u.1 u.2.1 u.2.2 r.1])) (by kernel_rfl) (fun w1 => op_call (by kernel_rfl)) (fun r1 hr1 w1 c1 => m_emptying_Counts_ok N w1 r5 (120 : Int) u6.1 u6.2.1 u6.2.2 (c1.own 0 rfl encApiEmptying_len) (c1.ownZ 0 rfl) r1 hr1) ?_
  intro r7 u8
  refine lm_val 13 (by kernel_rfl) (fun w1 c1 => (op_move (v := .tuple _) rfl)) ?_
  refine lm_val 16 (by kernel_rfl) (fun w1 c1 => (op_extract (v := .slice _ _ _) rfl rfl)) ?_
  refine lm_val 17 (by kernel_rfl) (fun w1 c1 => (op_extract (v := .int .i64 _) rfl rfl)) ?_
  refine lm_val 2 (by kernel_rfl) (fun w1 c1 => (op_assign (v := .slice _ _ _) rfl)) ?_
  refine lm_val 3 (by kernel_rfl) (fun w1 c1 => (op_assign (v := .int .i64 _) rfl)) ?_
  refine lm_nil ?_
  refine xm_next ?_
  refine cm_seq ?_
  refine cm_region ?_
  refine lm_val 19 (by kernel_rfl) (fun w1 c1 => (op_move (v := .slice _ _ _) rfl)) ?_
  refine lm_val 20 (by kernel_rfl) (fun w1 c1 => (op_build (z := [.int .i64 0, .int .i64 0]) (tab := [(0, 1), (1, 1)]) (cs := [.int .i64 _, .int .i64 _]) [(0, [.int .i64 _]), (1, [.int .i64 _])] (by kernel_rfl) (by kernel_rfl) (fillOk_cons rfl rfl rfl (fillOk_cons rfl rfl rfl fillOk_nil)) rfl)) ?_
  refine lm_call 21 (V := (fun (r : ApiSpan × Int) (_u : Unit) => .tuple #[.agg #[.int .i64 r.1.Lo, .int .i64 r.1.Hi], .int .i64 r.2])) (HR := (fun (_r : ApiSpan × Int) (_u : Unit) => [])) (by kernel_rfl) (fun w1 => op_call (by kernel_rfl)) (fun r1 hr1 w1 c1 => m_emptying_Mass_ok N w1 r5 (0 : Int) (ApiWindow.mk 1000 1121) u6.1 u6.2.1 u6.2.2 (c1.own 1 rfl encApiEmptying_len) (c1.ownZ 1 rfl) r1 hr1) ?_
  intro r9 u10
  refine lm_val 18 (by kernel_rfl) (fun w1 c1 => (op_move (v := .tuple _) rfl)) ?_
  refine lm_val 22 (by kernel_rfl) (fun w1 c1 => (op_extract (v := .agg _) rfl rfl)) ?_
  refine lm_val 23 (by kernel_rfl) (fun w1 c1 => (op_extract (v := .int .i64 _) rfl rfl)) ?_
  refine lm_alloc 4 [.int .i64 0, .int .i64 0] (v := .agg #[.int .i64 0, .int .i64 0]) (by kernel_rfl) (by kernel_rfl) rfl ?_
  intro b11
  refine lm_storeA 0 [.int .i64 _, .int .i64 _] [_, _] (H' := [blkE _ _ [_, _], _, _, _]) (by kernel_rfl) rfl rfl (by kernel_rfl) rfl rfl (by kernel_rfl) rfl rfl ?_
  refine lm_val 5 (by kernel_rfl) (fun w1 c1 => (op_assign (v := .int .i64 _) rfl)) ?_
  refine lm_nil ?_
  refine xm_next ?_
  refine cm_seq ?_
  refine cm_region ?_
  refine lm_val 24 (by kernel_rfl) (fun w1 c1 => (op_build (z := [.int .i64 0, .int .i64 0]) (tab := [(0, 1), (1, 1)]) (cs := [.int .i64 _, .int .i64 _]) [(0, [.int .i64 _]), (1, [.int .i64 _])] (by kernel_rfl) (by kernel_rfl) (fillOk_cons rfl rfl rfl (fillOk_cons rfl rfl rfl fillOk_nil)) rfl)) ?_
  refine lm_val 25 (by kernel_rfl) (fun w1 c1 => (op_build (z := [.int .i64 0, .int .i64 0, .int .i64 0, .int .i64 0]) (tab := [(0, 1), (1, 1), (2, 2)]) (cs := [.int .i64 _, .int .i64 _, .int .i64 _, .int .i64 _]) [(0, [.int .i64 _]), (1, [.int .i64 _]), (2, [.int .i64 _, .int .i64 _])] (by kernel_rfl) (by kernel_rfl) (fillOk_cons rfl rfl rfl (fillOk_cons rfl rfl rfl (fillOk_cons rfl rfl rfl fillOk_nil))) rfl)) ?_
  refine lm_slice1 26 (el := 51) (sz := 4) (bytes := 32) (enc := encApiAssign) (ApiAssign.mk 0 4 (ApiWindow.mk 0 1121)) (by kernel_rfl) (by kernel_rfl) encApiAssign_len rfl (by kernel_rfl) ?_
  intro A12 n13 k14 h15
  refine lm_val 6 (by kernel_rfl) (fun w1 c1 => (op_assign (v := .slice _ _ _) rfl)) ?_
  refine lm_nil ?_
  refine xm_next ?_
  refine cm_seq ?_
  refine cm_region ?_
  refine lm_val 28 (by kernel_rfl) (fun w1 c1 => (op_move (v := .slice _ _ _) rfl)) ?_
  refine lm_val 29 (by kernel_rfl) (fun w1 c1 => (op_move (v := .slice _ _ _) rfl)) ?_
  refine lm_val 30 (by kernel_rfl) (fun w1 c1 => (op_build (z := [.int .i64 0, .int .i64 0]) (tab := [(0, 1), (1, 1)]) (cs := [.int .i64 _, .int .i64 _]) [(0, [.int .i64 _]), (1, [.int .i64 _])] (by kernel_rfl) (by kernel_rfl) (fillOk_cons rfl rfl rfl (fillOk_cons rfl rfl rfl fillOk_nil)) rfl)) ?_
  refine lm_call 31 (V := (fun (r : (List Int) × Int) (u : (Option Addr) × Nat × Nat) => .tuple #[.slice u.1 u.2.1 u.2.2, .int .i64 r.2])) (HR := (fun (r : (List Int) × Int) (u : (Option Addr) × Nat × Nat) => [ownE 3 1 encI u.1 u.2.1 u.2.2 r.1])) (by kernel_rfl) (fun w1 => op_call (by kernel_rfl)) (fun r1 hr1 w1 c1 => m_emptying_Of_ok N w1 r5 ([(ApiAssign.mk 0 4 (ApiWindow.mk 0 1121))]) (4 : Int) (ApiWindow.mk 0 2000) (120 : Int) u6.1 u6.2.1 u6.2.2 A12 n13 k14 (c1.own 3 rfl encApiEmptying_len) (c1.ownZ 3 rfl) (c1.own 0 rfl encApiAssign_len) (c1.ownZ 0 rfl) r1 hr1) ?_
  intro r16 u17
  refine lm_val 27 (by kernel_rfl) (fun w1 c1 => (op_move (v := .tuple _) rfl)) ?_
  refine lm_val 32 (by kernel_rfl) (fun w1 c1 => (op_extract (v := .slice _ _ _) rfl rfl)) ?_
  refine lm_val 33 (by kernel_rfl) (fun w1 c1 => (op_extract (v := .int .i64 _) rfl rfl)) ?_
  refine lm_val 7 (by kernel_rfl) (fun w1 c1 => (op_assign (v := .slice _ _ _) rfl)) ?_
  refine lm_val 8 (by kernel_rfl) (fun w1 c1 => (op_assign (v := .int .i64 _) rfl)) ?_
  refine lm_nil ?_
  refine xm_next ?_
  refine cm_seq ?_
  refine cm_region ?_
  refine lm_val 34 (by kernel_rfl) (fun w1 c1 => (op_move (v := .slice _ _ _) rfl)) ?_
  refine lm_ck (fun h18 => ?_)
  refine lm_val 35 (by kernel_rfl) (fun w1 c1 => (op_indexA 7 rfl rfl (by kernel_rfl) ((c1.own 4 rfl encApiEmptying_len).addr h18.1 h18.2) (c1.ownZ 4 rfl).2.2 h18.1 h18.2)) ?_
  refine lm_val 36 (by kernel_rfl) (fun w1 c1 => (op_field (m := 6) rfl (by kernel_rfl))) ?_
  refine lm_storeIx 4 (ApiEmptying.mk ((ix r5 0).ID) ((ix r5 0).Container) ((ix r5 0).Vehicle) ((ix r5 0).At) ((ix r5 0).Mass) true) 6 [.bool true] (by kernel_rfl) rfl rfl (by kernel_rfl) rfl rfl rfl encApiEmptying_len encApiEmptying_one h18.1 h18.2 (by kernel_rfl) rfl ?_
  refine lm_nil ?_
  refine xm_next ?_
  refine cm_seq ?_
  refine cm_region ?_
  refine lm_val 38 (by kernel_rfl) (fun w1 c1 => (op_move (v := .slice _ _ _) rfl)) ?_
  refine lm_call 39 (V := (fun (r : (List Int) × Int) (u : (Option Addr) × Nat × Nat) => .tuple #[.slice u.1 u.2.1 u.2.2, .int .i64 r.2])) (HR := (fun (r : (List Int) × Int) (u : (Option Addr) × Nat × Nat) => [ownE 3 1 encI u.1 u.2.1 u.2.2 r.1])) (by kernel_rfl) (fun w1 => op_call (by kernel_rfl)) (fun r1 hr1 w1 c1 => m_emptying_Counts_ok N w1 (List.set r5 (Int.toNat 0) (ApiEmptying.mk ((ix r5 0).ID) ((ix r5 0).Container) ((ix r5 0).Vehicle) ((ix r5 0).At) ((ix r5 0).Mass) true)) (120 : Int) u6.1 u6.2.1 u6.2.2 (c1.own 4 rfl encApiEmptying_len) (c1.ownZ 4 rfl) r1 hr1) ?_
  intro r19 u20
  refine lm_val 37 (by kernel_rfl) (fun w1 c1 => (op_move (v := .tuple _) rfl)) ?_
  refine lm_val 40 (by kernel_rfl) (fun w1 c1 => (op_extract (v := .slice _ _ _) rfl rfl)) ?_
  refine lm_val 41 (by kernel_rfl) (fun w1 c1 => (op_extract (v := .int .i64 _) rfl rfl)) ?_
  refine lm_val 9 (by kernel_rfl) (fun w1 c1 => (op_assign (v := .slice _ _ _) rfl)) ?_
  refine lm_val 10 (by kernel_rfl) (fun w1 c1 => (op_assign (v := .int .i64 _) rfl)) ?_
  refine lm_nil ?_
  refine xm_next ?_
  refine cm_seq ?_
  refine cm_region ?_
  refine lm_val 42 (by kernel_rfl) (fun w1 c1 => (op_move (v := .int .i64 _) rfl)) ?_
  refine lm_decM 43 (by kernel_rfl) (fun w1 c1 => (op_eql rfl rfl)) (fun h21 => ?_) (fun h21 => ?_)
  · skip
    refine lm_val 44 (by kernel_rfl) (fun w1 c1 => (op_move (v := .bool true) rfl)) ?_
    refine lm_val 45 (by kernel_rfl) (fun w1 c1 => (op_move (v := .slice _ _ _) rfl)) ?_
    refine lm_sliceN 46 (el := 3) (sz := 1) (bytes := 8) (enc := encI) [(0 : Int), (3 : Int)] (by kernel_rfl) (by kernel_rfl) encI_len rfl ⟨rfl, rfl, ⟨rfl, rfl, trivial⟩⟩ (by kernel_rfl) (by kernel_rfl) ?_
    intro A22 n23 k24 h25
    refine lm_call 47 (V := (fun (r : Bool) (_u : Unit) => .bool r)) (HR := (fun (_r : Bool) (_u : Unit) => [])) (by kernel_rfl) (fun w1 => op_call (by kernel_rfl)) (fun r1 hr1 w1 c1 => m_recyclingref18_Same_ok N w1 r7.1 ([(0 : Int), (3 : Int)]) u8.1 u8.2.1 u8.2.2 A22 n23 k24 (c1.own 5 rfl encI_len) (c1.ownZ 5 rfl) (c1.own 0 rfl encI_len) (c1.ownZ 0 rfl) r1 hr1) ?_
    intro r26 u27
    cases r26
    · show Lm _ _ _ _ _ _ (if false = true then _ else _) _ _
      simp only [Bool.false_eq_true, if_false]
      refine lm_val 48 (by kernel_rfl) (fun w1 c1 => (op_pick_t (v := .bool false) rfl rfl)) ?_
      refine lm_val 49 (by kernel_rfl) (fun w1 c1 => (op_move (v := .bool false) rfl)) ?_
      refine lm_skip 50 (by kernel_rfl) ?_
      refine lm_skip 51 (by kernel_rfl) ?_
      refine lm_val 52 (by kernel_rfl) (fun w1 c1 => (op_pick_f (v := .bool false) rfl rfl)) ?_
      refine lm_val 53 (by kernel_rfl) (fun w1 c1 => (op_move (v := .bool false) rfl)) ?_
      refine lm_skip 54 (by kernel_rfl) ?_
      refine lm_skip 55 (by kernel_rfl) ?_
      refine lm_skip 56 (by kernel_rfl) ?_
      refine lm_val 57 (by kernel_rfl) (fun w1 c1 => (op_pick_f (v := .bool false) rfl rfl)) ?_
      refine lm_val 58 (by kernel_rfl) (fun w1 c1 => (op_move (v := .bool false) rfl)) ?_
      refine lm_skip 59 (by kernel_rfl) ?_
      refine lm_skip 60 (by kernel_rfl) ?_
      refine lm_val 61 (by kernel_rfl) (fun w1 c1 => (op_pick_f (v := .bool false) rfl rfl)) ?_
      refine lm_val 62 (by kernel_rfl) (fun w1 c1 => (op_move (v := .bool false) rfl)) ?_
      refine lm_skip 63 (by kernel_rfl) ?_
      refine lm_skip 64 (by kernel_rfl) ?_
      refine lm_skip 65 (by kernel_rfl) ?_
      refine lm_val 66 (by kernel_rfl) (fun w1 c1 => (op_pick_f (v := .bool false) rfl rfl)) ?_
      refine lm_val 67 (by kernel_rfl) (fun w1 c1 => (op_move (v := .bool false) rfl)) ?_
      refine lm_skip 68 (by kernel_rfl) ?_
      refine lm_skip 69 (by kernel_rfl) ?_
      refine lm_val 70 (by kernel_rfl) (fun w1 c1 => (op_pick_f (v := .bool false) rfl rfl)) ?_
      refine lm_val 71 (by kernel_rfl) (fun w1 c1 => (op_move (v := .bool false) rfl)) ?_
      refine lm_skip 72 (by kernel_rfl) ?_
      refine lm_skip 73 (by kernel_rfl) ?_
      refine lm_skip 74 (by kernel_rfl) ?_
      refine lm_val 75 (by kernel_rfl) (fun w1 c1 => (op_pick_f (v := .bool false) rfl rfl)) ?_
      refine lm_val 76 (by kernel_rfl) (fun w1 c1 => (op_move (v := .bool false) rfl)) ?_
      refine lm_skip 77 (by kernel_rfl) ?_
      refine lm_skip 78 (by kernel_rfl) ?_
      refine lm_skip 79 (by kernel_rfl) ?_
      refine lm_val 80 (by kernel_rfl) (fun w1 c1 => (op_pick_f (v := .bool false) rfl rfl)) ?_
      refine lm_val 0 (by kernel_rfl) (fun w1 c1 => (op_assign (v := .bool false) rfl)) ?_
      refine lm_nil ?_
      refine xm_next ?_
      refine cm_ret ?_
      exact xm_retT rfl (by kernel_rfl) (show _ = Value.bool false from rfl) fun w1 c1 => ⟨(), rfl, hsub [] (by kernel_rfl) rfl w1 c1⟩
    · show Lm _ _ _ _ _ _ (if true = true then _ else _) _ _
      simp only [if_true]
      refine lm_val 48 (by kernel_rfl) (fun w1 c1 => (op_pick_t (v := .bool true) rfl rfl)) ?_
      refine lm_val 49 (by kernel_rfl) (fun w1 c1 => (op_move (v := .bool true) rfl)) ?_
      refine lm_val 50 (by kernel_rfl) (fun w1 c1 => (op_move (v := .int .i64 _) rfl)) ?_
      refine lm_decM 51 (by kernel_rfl) (fun w1 c1 => (op_eql rfl rfl)) (fun h28 => ?_) (fun h28 => ?_)
      · skip
        refine lm_val 52 (by kernel_rfl) (fun w1 c1 => (op_pick_t (v := .bool true) rfl rfl)) ?_
        refine lm_val 53 (by kernel_rfl) (fun w1 c1 => (op_move (v := .bool true) rfl)) ?_
        refine lm_val 54 (by kernel_rfl) (fun w1 c1 => (op_loadR [.int .i64 _, .int .i64 _] rfl (by kernel_rfl) (c1.cells 4 rfl rfl))) ?_
        refine lm_val 55 (by kernel_rfl) (fun w1 c1 => (op_build (z := [.int .i64 0, .int .i64 0]) (tab := [(0, 1), (1, 1)]) (cs := [.int .i64 _, .int .i64 _]) [(0, [.int .i64 _]), (1, [.int .i64 _])] (by kernel_rfl) (by kernel_rfl) (fillOk_cons rfl rfl rfl (fillOk_cons rfl rfl rfl fillOk_nil)) rfl)) ?_
        refine lm_decM 56 (by kernel_rfl) (fun w1 c1 => (op_eqApiSpan r9.1 (ApiSpan.mk 30 36) rfl rfl)) (fun h29 => ?_) (fun h29 => ?_)
        · skip
          refine lm_val 57 (by kernel_rfl) (fun w1 c1 => (op_pick_t (v := .bool true) rfl rfl)) ?_
          refine lm_val 58 (by kernel_rfl) (fun w1 c1 => (op_move (v := .bool true) rfl)) ?_
          refine lm_val 59 (by kernel_rfl) (fun w1 c1 => (op_move (v := .int .i64 _) rfl)) ?_
          refine lm_decM 60 (by kernel_rfl) (fun w1 c1 => (op_eql rfl rfl)) (fun h30 => ?_) (fun h30 => ?_)
          · skip
            refine lm_val 61 (by kernel_rfl) (fun w1 c1 => (op_pick_t (v := .bool true) rfl rfl)) ?_
            refine lm_val 62 (by kernel_rfl) (fun w1 c1 => (op_move (v := .bool true) rfl)) ?_
            refine lm_val 63 (by kernel_rfl) (fun w1 c1 => (op_move (v := .slice _ _ _) rfl)) ?_
            refine lm_slice1 64 (el := 3) (sz := 1) (bytes := 8) (enc := encI) (0 : Int) (by kernel_rfl) (by kernel_rfl) encI_len rfl (by kernel_rfl) ?_
            intro A31 n32 k33 h34
            refine lm_call 65 (V := (fun (r : Bool) (_u : Unit) => .bool r)) (HR := (fun (_r : Bool) (_u : Unit) => [])) (by kernel_rfl) (fun w1 => op_call (by kernel_rfl)) (fun r1 hr1 w1 c1 => m_recyclingref18_Same_ok N w1 r16.1 ([(0 : Int)]) u17.1 u17.2.1 u17.2.2 A31 n32 k33 (c1.own 3 rfl encI_len) (c1.ownZ 3 rfl) (c1.own 0 rfl encI_len) (c1.ownZ 0 rfl) r1 hr1) ?_
            intro r35 u36
            cases r35
            · show Lm _ _ _ _ _ _ (if false = true then _ else _) _ _
              simp only [Bool.false_eq_true, if_false]
              refine lm_val 66 (by kernel_rfl) (fun w1 c1 => (op_pick_t (v := .bool false) rfl rfl)) ?_
              refine lm_val 67 (by kernel_rfl) (fun w1 c1 => (op_move (v := .bool false) rfl)) ?_
              refine lm_skip 68 (by kernel_rfl) ?_
              refine lm_skip 69 (by kernel_rfl) ?_
              refine lm_val 70 (by kernel_rfl) (fun w1 c1 => (op_pick_f (v := .bool false) rfl rfl)) ?_
              refine lm_val 71 (by kernel_rfl) (fun w1 c1 => (op_move (v := .bool false) rfl)) ?_
              refine lm_skip 72 (by kernel_rfl) ?_
              refine lm_skip 73 (by kernel_rfl) ?_
              refine lm_skip 74 (by kernel_rfl) ?_
              refine lm_val 75 (by kernel_rfl) (fun w1 c1 => (op_pick_f (v := .bool false) rfl rfl)) ?_
              refine lm_val 76 (by kernel_rfl) (fun w1 c1 => (op_move (v := .bool false) rfl)) ?_
              refine lm_skip 77 (by kernel_rfl) ?_
              refine lm_skip 78 (by kernel_rfl) ?_
              refine lm_skip 79 (by kernel_rfl) ?_
              refine lm_val 80 (by kernel_rfl) (fun w1 c1 => (op_pick_f (v := .bool false) rfl rfl)) ?_
              refine lm_val 0 (by kernel_rfl) (fun w1 c1 => (op_assign (v := .bool false) rfl)) ?_
              refine lm_nil ?_
              refine xm_next ?_
              refine cm_ret ?_
              exact xm_retT rfl (by kernel_rfl) (show _ = Value.bool false from rfl) fun w1 c1 => ⟨(), rfl, hsub [] (by kernel_rfl) rfl w1 c1⟩
            · show Lm _ _ _ _ _ _ (if true = true then _ else _) _ _
              simp only [if_true]
              refine lm_val 66 (by kernel_rfl) (fun w1 c1 => (op_pick_t (v := .bool true) rfl rfl)) ?_
              refine lm_val 67 (by kernel_rfl) (fun w1 c1 => (op_move (v := .bool true) rfl)) ?_
              refine lm_val 68 (by kernel_rfl) (fun w1 c1 => (op_move (v := .int .i64 _) rfl)) ?_
              refine lm_decM 69 (by kernel_rfl) (fun w1 c1 => (op_eql rfl rfl)) (fun h37 => ?_) (fun h37 => ?_)
              · skip
                refine lm_val 70 (by kernel_rfl) (fun w1 c1 => (op_pick_t (v := .bool true) rfl rfl)) ?_
                refine lm_val 71 (by kernel_rfl) (fun w1 c1 => (op_move (v := .bool true) rfl)) ?_
                refine lm_val 72 (by kernel_rfl) (fun w1 c1 => (op_move (v := .slice _ _ _) rfl)) ?_
                refine lm_slice1 73 (el := 3) (sz := 1) (bytes := 8) (enc := encI) (1 : Int) (by kernel_rfl) (by kernel_rfl) encI_len rfl (by kernel_rfl) ?_
                intro A38 n39 k40 h41
                refine lm_call 74 (V := (fun (r : Bool) (_u : Unit) => .bool r)) (HR := (fun (_r : Bool) (_u : Unit) => [])) (by kernel_rfl) (fun w1 => op_call (by kernel_rfl)) (fun r1 hr1 w1 c1 => m_recyclingref18_Same_ok N w1 r19.1 ([(1 : Int)]) u20.1 u20.2.1 u20.2.2 A38 n39 k40 (c1.own 3 rfl encI_len) (c1.ownZ 3 rfl) (c1.own 0 rfl encI_len) (c1.ownZ 0 rfl) r1 hr1) ?_
                intro r42 u43
                cases r42
                · show Lm _ _ _ _ _ _ (if false = true then _ else _) _ _
                  simp only [Bool.false_eq_true, if_false]
                  refine lm_val 75 (by kernel_rfl) (fun w1 c1 => (op_pick_t (v := .bool false) rfl rfl)) ?_
                  refine lm_val 76 (by kernel_rfl) (fun w1 c1 => (op_move (v := .bool false) rfl)) ?_
                  refine lm_skip 77 (by kernel_rfl) ?_
                  refine lm_skip 78 (by kernel_rfl) ?_
                  refine lm_skip 79 (by kernel_rfl) ?_
                  refine lm_val 80 (by kernel_rfl) (fun w1 c1 => (op_pick_f (v := .bool false) rfl rfl)) ?_
                  refine lm_val 0 (by kernel_rfl) (fun w1 c1 => (op_assign (v := .bool false) rfl)) ?_
                  refine lm_nil ?_
                  refine xm_next ?_
                  refine cm_ret ?_
                  exact xm_retT rfl (by kernel_rfl) (show _ = Value.bool false from rfl) fun w1 c1 => ⟨(), rfl, hsub [] (by kernel_rfl) rfl w1 c1⟩
                · show Lm _ _ _ _ _ _ (if true = true then _ else _) _ _
                  simp only [if_true]
                  refine lm_val 75 (by kernel_rfl) (fun w1 c1 => (op_pick_t (v := .bool true) rfl rfl)) ?_
                  refine lm_val 76 (by kernel_rfl) (fun w1 c1 => (op_move (v := .bool true) rfl)) ?_
                  refine lm_val 77 (by kernel_rfl) (fun w1 c1 => (op_move (v := .slice _ _ _) rfl)) ?_
                  refine lm_call 78 (V := (fun (r : Int) (_u : Unit) => .int .i64 r)) (HR := (fun (_r : Int) (_u : Unit) => [])) (by kernel_rfl) (fun w1 => op_call (by kernel_rfl)) (fun r1 hr1 w1 c1 => m_emptying_Check_ok N w1 (List.set r5 (Int.toNat 0) (ApiEmptying.mk ((ix r5 0).ID) ((ix r5 0).Container) ((ix r5 0).Vehicle) ((ix r5 0).At) ((ix r5 0).Mass) true)) (1 : Int) (1 : Int) u6.1 u6.2.1 u6.2.2 (c1.own 8 rfl encApiEmptying_len) (c1.ownZ 8 rfl) r1 hr1) ?_
                  intro r44 u45
                  refine lm_val 79 (by kernel_rfl) (fun w1 c1 => (op_eql rfl rfl)) ?_
                  refine lm_val 80 (by kernel_rfl) (fun w1 c1 => (op_pick_t (v := .bool _) rfl rfl)) ?_
                  refine lm_val 0 (by kernel_rfl) (fun w1 c1 => (op_assign (v := .bool _) rfl)) ?_
                  refine lm_nil ?_
                  refine xm_next ?_
                  refine cm_ret ?_
                  exact xm_retT rfl (by kernel_rfl) (show _ = Value.bool _ from rfl) fun w1 c1 => ⟨(), rfl, hsub [] (by kernel_rfl) rfl w1 c1⟩
              · skip
                refine lm_val 70 (by kernel_rfl) (fun w1 c1 => (op_pick_t (v := .bool false) rfl rfl)) ?_
                refine lm_val 71 (by kernel_rfl) (fun w1 c1 => (op_move (v := .bool false) rfl)) ?_
                refine lm_skip 72 (by kernel_rfl) ?_
                refine lm_skip 73 (by kernel_rfl) ?_
                refine lm_skip 74 (by kernel_rfl) ?_
                refine lm_val 75 (by kernel_rfl) (fun w1 c1 => (op_pick_f (v := .bool false) rfl rfl)) ?_
                refine lm_val 76 (by kernel_rfl) (fun w1 c1 => (op_move (v := .bool false) rfl)) ?_
                refine lm_skip 77 (by kernel_rfl) ?_
                refine lm_skip 78 (by kernel_rfl) ?_
                refine lm_skip 79 (by kernel_rfl) ?_
                refine lm_val 80 (by kernel_rfl) (fun w1 c1 => (op_pick_f (v := .bool false) rfl rfl)) ?_
                refine lm_val 0 (by kernel_rfl) (fun w1 c1 => (op_assign (v := .bool false) rfl)) ?_
                refine lm_nil ?_
                refine xm_next ?_
                refine cm_ret ?_
                exact xm_retT rfl (by kernel_rfl) (show _ = Value.bool false from rfl) fun w1 c1 => ⟨(), rfl, hsub [] (by kernel_rfl) rfl w1 c1⟩
          · skip
            refine lm_val 61 (by kernel_rfl) (fun w1 c1 => (op_pick_t (v := .bool false) rfl rfl)) ?_
            refine lm_val 62 (by kernel_rfl) (fun w1 c1 => (op_move (v := .bool false) rfl)) ?_
            refine lm_skip 63 (by kernel_rfl) ?_
            refine lm_skip 64 (by kernel_rfl) ?_
            refine lm_skip 65 (by kernel_rfl) ?_
            refine lm_val 66 (by kernel_rfl) (fun w1 c1 => (op_pick_f (v := .bool false) rfl rfl)) ?_
            refine lm_val 67 (by kernel_rfl) (fun w1 c1 => (op_move (v := .bool false) rfl)) ?_
            refine lm_skip 68 (by kernel_rfl) ?_
            refine lm_skip 69 (by kernel_rfl) ?_
            refine lm_val 70 (by kernel_rfl) (fun w1 c1 => (op_pick_f (v := .bool false) rfl rfl)) ?_
            refine lm_val 71 (by kernel_rfl) (fun w1 c1 => (op_move (v := .bool false) rfl)) ?_
            refine lm_skip 72 (by kernel_rfl) ?_
            refine lm_skip 73 (by kernel_rfl) ?_
            refine lm_skip 74 (by kernel_rfl) ?_
            refine lm_val 75 (by kernel_rfl) (fun w1 c1 => (op_pick_f (v := .bool false) rfl rfl)) ?_
            refine lm_val 76 (by kernel_rfl) (fun w1 c1 => (op_move (v := .bool false) rfl)) ?_
            refine lm_skip 77 (by kernel_rfl) ?_
            refine lm_skip 78 (by kernel_rfl) ?_
            refine lm_skip 79 (by kernel_rfl) ?_
            refine lm_val 80 (by kernel_rfl) (fun w1 c1 => (op_pick_f (v := .bool false) rfl rfl)) ?_
            refine lm_val 0 (by kernel_rfl) (fun w1 c1 => (op_assign (v := .bool false) rfl)) ?_
            refine lm_nil ?_
            refine xm_next ?_
            refine cm_ret ?_
            exact xm_retT rfl (by kernel_rfl) (show _ = Value.bool false from rfl) fun w1 c1 => ⟨(), rfl, hsub [] (by kernel_rfl) rfl w1 c1⟩
        · skip
          refine lm_val 57 (by kernel_rfl) (fun w1 c1 => (op_pick_t (v := .bool false) rfl rfl)) ?_
          refine lm_val 58 (by kernel_rfl) (fun w1 c1 => (op_move (v := .bool false) rfl)) ?_
          refine lm_skip 59 (by kernel_rfl) ?_
          refine lm_skip 60 (by kernel_rfl) ?_
          refine lm_val 61 (by kernel_rfl) (fun w1 c1 => (op_pick_f (v := .bool false) rfl rfl)) ?_
          refine lm_val 62 (by kernel_rfl) (fun w1 c1 => (op_move (v := .bool false) rfl)) ?_
          refine lm_skip 63 (by kernel_rfl) ?_
          refine lm_skip 64 (by kernel_rfl) ?_
          refine lm_skip 65 (by kernel_rfl) ?_
          refine lm_val 66 (by kernel_rfl) (fun w1 c1 => (op_pick_f (v := .bool false) rfl rfl)) ?_
          refine lm_val 67 (by kernel_rfl) (fun w1 c1 => (op_move (v := .bool false) rfl)) ?_
          refine lm_skip 68 (by kernel_rfl) ?_
          refine lm_skip 69 (by kernel_rfl) ?_
          refine lm_val 70 (by kernel_rfl) (fun w1 c1 => (op_pick_f (v := .bool false) rfl rfl)) ?_
          refine lm_val 71 (by kernel_rfl) (fun w1 c1 => (op_move (v := .bool false) rfl)) ?_
          refine lm_skip 72 (by kernel_rfl) ?_
          refine lm_skip 73 (by kernel_rfl) ?_
          refine lm_skip 74 (by kernel_rfl) ?_
          refine lm_val 75 (by kernel_rfl) (fun w1 c1 => (op_pick_f (v := .bool false) rfl rfl)) ?_
          refine lm_val 76 (by kernel_rfl) (fun w1 c1 => (op_move (v := .bool false) rfl)) ?_
          refine lm_skip 77 (by kernel_rfl) ?_
          refine lm_skip 78 (by kernel_rfl) ?_
          refine lm_skip 79 (by kernel_rfl) ?_
          refine lm_val 80 (by kernel_rfl) (fun w1 c1 => (op_pick_f (v := .bool false) rfl rfl)) ?_
          refine lm_val 0 (by kernel_rfl) (fun w1 c1 => (op_assign (v := .bool false) rfl)) ?_
          refine lm_nil ?_
          refine xm_next ?_
          refine cm_ret ?_
          exact xm_retT rfl (by kernel_rfl) (show _ = Value.bool false from rfl) fun w1 c1 => ⟨(), rfl, hsub [] (by kernel_rfl) rfl w1 c1⟩
      · skip
        refine lm_val 52 (by kernel_rfl) (fun w1 c1 => (op_pick_t (v := .bool false) rfl rfl)) ?_
        refine lm_val 53 (by kernel_rfl) (fun w1 c1 => (op_move (v := .bool false) rfl)) ?_
        refine lm_skip 54 (by kernel_rfl) ?_
        refine lm_skip 55 (by kernel_rfl) ?_
        refine lm_skip 56 (by kernel_rfl) ?_
        refine lm_val 57 (by kernel_rfl) (fun w1 c1 => (op_pick_f (v := .bool false) rfl rfl)) ?_
        refine lm_val 58 (by kernel_rfl) (fun w1 c1 => (op_move (v := .bool false) rfl)) ?_
        refine lm_skip 59 (by kernel_rfl) ?_
        refine lm_skip 60 (by kernel_rfl) ?_
        refine lm_val 61 (by kernel_rfl) (fun w1 c1 => (op_pick_f (v := .bool false) rfl rfl)) ?_
        refine lm_val 62 (by kernel_rfl) (fun w1 c1 => (op_move (v := .bool false) rfl)) ?_
        refine lm_skip 63 (by kernel_rfl) ?_
        refine lm_skip 64 (by kernel_rfl) ?_
        refine lm_skip 65 (by kernel_rfl) ?_
        refine lm_val 66 (by kernel_rfl) (fun w1 c1 => (op_pick_f (v := .bool false) rfl rfl)) ?_
        refine lm_val 67 (by kernel_rfl) (fun w1 c1 => (op_move (v := .bool false) rfl)) ?_
        refine lm_skip 68 (by kernel_rfl) ?_
        refine lm_skip 69 (by kernel_rfl) ?_
        refine lm_val 70 (by kernel_rfl) (fun w1 c1 => (op_pick_f (v := .bool false) rfl rfl)) ?_
        refine lm_val 71 (by kernel_rfl) (fun w1 c1 => (op_move (v := .bool false) rfl)) ?_
        refine lm_skip 72 (by kernel_rfl) ?_
        refine lm_skip 73 (by kernel_rfl) ?_
        refine lm_skip 74 (by kernel_rfl) ?_
        refine lm_val 75 (by kernel_rfl) (fun w1 c1 => (op_pick_f (v := .bool false) rfl rfl)) ?_
        refine lm_val 76 (by kernel_rfl) (fun w1 c1 => (op_move (v := .bool false) rfl)) ?_
        refine lm_skip 77 (by kernel_rfl) ?_
        refine lm_skip 78 (by kernel_rfl) ?_
        refine lm_skip 79 (by kernel_rfl) ?_
        refine lm_val 80 (by kernel_rfl) (fun w1 c1 => (op_pick_f (v := .bool false) rfl rfl)) ?_
        refine lm_val 0 (by kernel_rfl) (fun w1 c1 => (op_assign (v := .bool false) rfl)) ?_
        refine lm_nil ?_
        refine xm_next ?_
        refine cm_ret ?_
        exact xm_retT rfl (by kernel_rfl) (show _ = Value.bool false from rfl) fun w1 c1 => ⟨(), rfl, hsub [] (by kernel_rfl) rfl w1 c1⟩
  · skip
    refine lm_val 44 (by kernel_rfl) (fun w1 c1 => (op_move (v := .bool false) rfl)) ?_
    refine lm_skip 45 (by kernel_rfl) ?_
    refine lm_skip 46 (by kernel_rfl) ?_
    refine lm_skip 47 (by kernel_rfl) ?_
    refine lm_val 48 (by kernel_rfl) (fun w1 c1 => (op_pick_f (v := .bool false) rfl rfl)) ?_
    refine lm_val 49 (by kernel_rfl) (fun w1 c1 => (op_move (v := .bool false) rfl)) ?_
    refine lm_skip 50 (by kernel_rfl) ?_
    refine lm_skip 51 (by kernel_rfl) ?_
    refine lm_val 52 (by kernel_rfl) (fun w1 c1 => (op_pick_f (v := .bool false) rfl rfl)) ?_
    refine lm_val 53 (by kernel_rfl) (fun w1 c1 => (op_move (v := .bool false) rfl)) ?_
    refine lm_skip 54 (by kernel_rfl) ?_
    refine lm_skip 55 (by kernel_rfl) ?_
    refine lm_skip 56 (by kernel_rfl) ?_
    refine lm_val 57 (by kernel_rfl) (fun w1 c1 => (op_pick_f (v := .bool false) rfl rfl)) ?_
    refine lm_val 58 (by kernel_rfl) (fun w1 c1 => (op_move (v := .bool false) rfl)) ?_
    refine lm_skip 59 (by kernel_rfl) ?_
    refine lm_skip 60 (by kernel_rfl) ?_
    refine lm_val 61 (by kernel_rfl) (fun w1 c1 => (op_pick_f (v := .bool false) rfl rfl)) ?_
    refine lm_val 62 (by kernel_rfl) (fun w1 c1 => (op_move (v := .bool false) rfl)) ?_
    refine lm_skip 63 (by kernel_rfl) ?_
    refine lm_skip 64 (by kernel_rfl) ?_
    refine lm_skip 65 (by kernel_rfl) ?_
    refine lm_val 66 (by kernel_rfl) (fun w1 c1 => (op_pick_f (v := .bool false) rfl rfl)) ?_
    refine lm_val 67 (by kernel_rfl) (fun w1 c1 => (op_move (v := .bool false) rfl)) ?_
    refine lm_skip 68 (by kernel_rfl) ?_
    refine lm_skip 69 (by kernel_rfl) ?_
    refine lm_val 70 (by kernel_rfl) (fun w1 c1 => (op_pick_f (v := .bool false) rfl rfl)) ?_
    refine lm_val 71 (by kernel_rfl) (fun w1 c1 => (op_move (v := .bool false) rfl)) ?_
    refine lm_skip 72 (by kernel_rfl) ?_
    refine lm_skip 73 (by kernel_rfl) ?_
    refine lm_skip 74 (by kernel_rfl) ?_
    refine lm_val 75 (by kernel_rfl) (fun w1 c1 => (op_pick_f (v := .bool false) rfl rfl)) ?_
    refine lm_val 76 (by kernel_rfl) (fun w1 c1 => (op_move (v := .bool false) rfl)) ?_
    refine lm_skip 77 (by kernel_rfl) ?_
    refine lm_skip 78 (by kernel_rfl) ?_
    refine lm_skip 79 (by kernel_rfl) ?_
    refine lm_val 80 (by kernel_rfl) (fun w1 c1 => (op_pick_f (v := .bool false) rfl rfl)) ?_
    refine lm_val 0 (by kernel_rfl) (fun w1 c1 => (op_assign (v := .bool false) rfl)) ?_
    refine lm_nil ?_
    refine xm_next ?_
    refine cm_ret ?_
    exact xm_retT rfl (by kernel_rfl) (show _ = Value.bool false from rfl) fun w1 c1 => ⟨(), rfl, hsub [] (by kernel_rfl) rfl w1 c1⟩
/-- recyclinglaw18.great -/
def m_recyclinglaw18_great (_N : Nat) (p0 : (List ApiEmptying)) : Option (Bool) :=
  some ((((decide (60 < (List.length p0 : Int))) && (decide ((List.length p0 : Int) ≤ 512))) || (decide (600 < (List.length p0 : Int)))))
set_option maxRecDepth 20000 in
theorem m_recyclinglaw18_great_ok (N : Nat) (w0 : World) (p0 : (List ApiEmptying)) (A_p0 : Option Addr) (n_p0 c_p0 : Nat) (_hr_p0 : RdE w0 7 encApiEmptying A_p0 p0) (hz_p0 : SW A_p0 n_p0 c_p0 (List.length p0)) (r : Bool) (hr : m_recyclinglaw18_great N p0 = some r) :
    Calls Try.prog 11 [.slice A_p0 n_p0 c_p0].toArray w0 fun x w1 => ∃ u, x = .returned ((fun (r : Bool) (_u : Unit) => .bool r) r u) ∧ Hs w0 ((fun (_r : Bool) (_u : Unit) => []) r u) w1 := by
  refine calls_cm (n := 16) (R := fun r x w1 => ∃ u, x = .returned ((fun (r : Bool) (_u : Unit) => .bool r) r u) ∧ Hs w0 ((fun (_r : Bool) (_u : Unit) => []) r u) w1) Try.func11 rfl rfl (Nat.le_of_ble_eq_true rfl) ?_ r hr
  unfold m_recyclinglaw18_great
  refine cm_seq ?_
  refine cm_region ?_
  refine lm_val 2 (by kernel_rfl) (fun w1 c1 => (op_assign (v := .bool false) rfl)) ?_
  refine lm_nil ?_
  refine xm_next ?_
  refine cm_seq ?_
  refine cm_cutE [(2, .bool (((decide (60 < (List.length p0 : Int))) && (decide ((List.length p0 : Int) ≤ 512))) || (decide (600 < (List.length p0 : Int)))))] ?_ ?_
  · skip
    refine wq_val 3 (by kernel_rfl) (fun w1 c1 => (op_move (v := .slice _ _ _) rfl)) ?_
    refine wq_val 4 (by kernel_rfl) (fun w1 c1 => (op_lenN rfl (by kernel_rfl) hz_p0.2.2)) ?_
    refine wq_dec 5 (by kernel_rfl) (fun w1 c1 => (op_gtr rfl rfl)) (fun h1 => ?_) (fun h1 => ?_)
    · skip
      refine wq_val 6 (by kernel_rfl) (fun w1 c1 => (op_move (v := .bool true) rfl)) ?_
      refine wq_val 7 (by kernel_rfl) (fun w1 c1 => (op_move (v := .slice _ _ _) rfl)) ?_
      refine wq_val 8 (by kernel_rfl) (fun w1 c1 => (op_lenN rfl (by kernel_rfl) hz_p0.2.2)) ?_
      refine wq_dec 9 (by kernel_rfl) (fun w1 c1 => (op_leq rfl rfl)) (fun h2 => ?_) (fun h2 => ?_)
      · skip
        refine wq_val 10 (by kernel_rfl) (fun w1 c1 => (op_pick_t (v := .bool true) rfl rfl)) ?_
        refine wq_val 11 (by kernel_rfl) (fun w1 c1 => (op_move (v := .bool true) rfl)) ?_
        refine wq_skip 12 (by kernel_rfl) ?_
        refine wq_skip 13 (by kernel_rfl) ?_
        refine wq_skip 14 (by kernel_rfl) ?_
        refine wq_val 15 (by kernel_rfl) (fun w1 c1 => (op_pick_t (v := .bool true) rfl rfl)) ?_
        refine wq_val 2 (by kernel_rfl) (fun w1 c1 => (op_assign (v := .bool true) rfl)) ?_
        exact leaf_q (sub_out 14 _ rfl (by kernel_rfl) ⟨(congrArg Value.bool (by rw [decide_eq_true h1, decide_eq_true h2] <;> rfl)), trivial⟩)
      · skip
        refine wq_val 10 (by kernel_rfl) (fun w1 c1 => (op_pick_t (v := .bool false) rfl rfl)) ?_
        refine wq_val 11 (by kernel_rfl) (fun w1 c1 => (op_move (v := .bool false) rfl)) ?_
        refine wq_val 12 (by kernel_rfl) (fun w1 c1 => (op_move (v := .slice _ _ _) rfl)) ?_
        refine wq_val 13 (by kernel_rfl) (fun w1 c1 => (op_lenN rfl (by kernel_rfl) hz_p0.2.2)) ?_
        refine wq_val 14 (by kernel_rfl) (fun w1 c1 => (op_gtr rfl rfl)) ?_
        refine wq_val 15 (by kernel_rfl) (fun w1 c1 => (op_pick_f (v := .bool _) rfl rfl)) ?_
        refine wq_val 2 (by kernel_rfl) (fun w1 c1 => (op_assign (v := .bool _) rfl)) ?_
        exact leaf_q (sub_out 14 _ rfl (by kernel_rfl) ⟨(congrArg Value.bool (by rw [decide_eq_true h1, decide_eq_false h2] <;> rfl)), trivial⟩)
    · skip
      refine wq_val 6 (by kernel_rfl) (fun w1 c1 => (op_move (v := .bool false) rfl)) ?_
      refine wq_skip 7 (by kernel_rfl) ?_
      refine wq_skip 8 (by kernel_rfl) ?_
      refine wq_skip 9 (by kernel_rfl) ?_
      refine wq_val 10 (by kernel_rfl) (fun w1 c1 => (op_pick_f (v := .bool false) rfl rfl)) ?_
      refine wq_val 11 (by kernel_rfl) (fun w1 c1 => (op_move (v := .bool false) rfl)) ?_
      refine wq_val 12 (by kernel_rfl) (fun w1 c1 => (op_move (v := .slice _ _ _) rfl)) ?_
      refine wq_val 13 (by kernel_rfl) (fun w1 c1 => (op_lenN rfl (by kernel_rfl) hz_p0.2.2)) ?_
      refine wq_val 14 (by kernel_rfl) (fun w1 c1 => (op_gtr rfl rfl)) ?_
      refine wq_val 15 (by kernel_rfl) (fun w1 c1 => (op_pick_f (v := .bool _) rfl rfl)) ?_
      refine wq_val 2 (by kernel_rfl) (fun w1 c1 => (op_assign (v := .bool _) rfl)) ?_
      exact leaf_q (sub_out 14 _ rfl (by kernel_rfl) ⟨(congrArg Value.bool (by rw [decide_eq_false h1] <;> rfl)), trivial⟩)
  refine xm_next ?_
  refine cm_ret ?_
  exact xm_retT rfl (by kernel_rfl) (show _ = Value.bool _ from rfl) fun w1 c1 => ⟨(), rfl, hsub [] (by kernel_rfl) rfl w1 c1⟩
end Go.Proofs.Ytkepegnnkmmefaa
