/- Models of functions, and that the code follows them. Written by deco.py. -/
import Derived.Test.YtpbgfdmkebnjgaaGreatDoorBR1
namespace Go.Proofs.YtpbgfdmkebnjgaaGreatDoor
open Go.RowKit
set_option linter.unusedSectionVars false
variable [JF]

/-- recyclingref53.Usable -/
def m_recyclingref53_Usable (_N : Nat) (p0 : ApiTariff) : Option (Bool) :=
 some (((((((((decide (0 ≤ p0.Base)) && (decide (p0.Base ≤ 100000))) && (decide (0 ≤ p0.Empty))) && (decide (p0.Empty ≤ 100000))) && (decide (0 ≤ p0.Kilo))) && (decide (p0.Kilo ≤ 100000))) && (decide (0 ≤ p0.Free))) && (decide (p0.Free ≤ 1000))))
set_option maxHeartbeats 2000000 in
set_option maxRecDepth 20000 in
theorem m_recyclingref53_Usable_ok (N : Nat) (w0 : World) (p0 : ApiTariff)   (r : Bool) (hr : m_recyclingref53_Usable N p0 = some r) :
  Ret Tryz.prog 84 [.agg #[.int .i64 p0.From, .int .i64 p0.Base, .int .i64 p0.Empty, .int .i64 p0.Kilo, .int .i64 p0.Free]] w0 (fun (r : Bool) (_u : Unit) => .bool r) (fun (_r : Bool) (_u : Unit) => []) r := by
 refine calls_v (n := 41) r hr Tryz.func84 ?_
 unfold m_recyclingref53_Usable
 refine sr ?_
 refine lm_box 1 [.int .i64 _, .int .i64 _, .int .i64 _, .int .i64 _, .int .i64 _] (by kernel_rfl) rfl ?_
 intro b5
 refine la 1 ((2, .bool false) :: _) rfl ?_
 refine nn ?_
 refine cm_seq ?_
 refine cm_cutE [(2, .bool ((((((((decide (0 ≤ p0.Base)) && (decide (p0.Base ≤ 100000))) && (decide (0 ≤ p0.Empty))) && (decide (p0.Empty ≤ 100000))) && (decide (0 ≤ p0.Kilo))) && (decide (p0.Kilo ≤ 100000))) && (decide (0 ≤ p0.Free))) && (decide (p0.Free ≤ 1000))))] ?_ ?_
 ·refine q_ 3 (fun _ _ => oF 1 1 rfl) ?_
  refine q_ 4 (fun _ c1 => oL (c1.cell 0 (u := .int .i64 _) rfl rfl)) ?_
  refine qd 5 (fun _ _ => op_geq rfl rfl) (fun h6 => ?_) (fun h6 => ?_)
  ·refine qa 1 ((6, .bool true) :: _) rfl ?_
   refine q_ 7 (fun _ _ => oF 1 1 rfl) ?_
   refine q_ 8 (fun _ c1 => oL (c1.cell 0 (u := .int .i64 _) rfl rfl)) ?_
   refine qd 9 (fun _ _ => op_leq rfl rfl) (fun h7 => ?_) (fun h7 => ?_)
   ·refine qa 2 ((11, .bool true) :: (10, .bool true) :: _) rfl ?_
    refine q_ 12 (fun _ _ => oF 2 2 rfl) ?_
    refine q_ 13 (fun _ c1 => oL (c1.cell 0 (u := .int .i64 _) rfl rfl)) ?_
    refine qd 14 (fun _ _ => op_geq rfl rfl) (fun h8 => ?_) (fun h8 => ?_)
    ·refine qa 2 ((16, .bool true) :: (15, .bool true) :: _) rfl ?_
     refine q_ 17 (fun _ _ => oF 2 2 rfl) ?_
     refine q_ 18 (fun _ c1 => oL (c1.cell 0 (u := .int .i64 _) rfl rfl)) ?_
     refine qd 19 (fun _ _ => op_leq rfl rfl) (fun h9 => ?_) (fun h9 => ?_)
     ·refine qa 2 ((21, .bool true) :: (20, .bool true) :: _) rfl ?_
      refine q_ 22 (fun _ _ => oF 3 3 rfl) ?_
      refine q_ 23 (fun _ c1 => oL (c1.cell 0 (u := .int .i64 _) rfl rfl)) ?_
      refine qd 24 (fun _ _ => op_geq rfl rfl) (fun h10 => ?_) (fun h10 => ?_)
      ·refine qa 2 ((26, .bool true) :: (25, .bool true) :: _) rfl ?_
       refine q_ 27 (fun _ _ => oF 3 3 rfl) ?_
       refine q_ 28 (fun _ c1 => oL (c1.cell 0 (u := .int .i64 _) rfl rfl)) ?_
       refine qd 29 (fun _ _ => op_leq rfl rfl) (fun h11 => ?_) (fun h11 => ?_)
       ·refine qa 2 ((31, .bool true) :: (30, .bool true) :: _) rfl ?_
        refine q_ 32 (fun _ _ => oF 4 4 rfl) ?_
        refine q_ 33 (fun _ c1 => oL (c1.cell 0 (u := .int .i64 _) rfl rfl)) ?_
        refine qd 34 (fun _ _ => op_geq rfl rfl) (fun h12 => ?_) (fun h12 => ?_)
        ·refine qa 2 ((36, .bool true) :: (35, .bool true) :: _) rfl ?_
         refine q_ 37 (fun _ _ => oF 4 4 rfl) ?_
         refine q_ 38 (fun _ c1 => oL (c1.cell 0 (u := .int .i64 _) rfl rfl)) ?_
         refine qa 3 ((2, .bool _) :: (40, .bool _) :: (39, .bool _) :: _) rfl ?_
         exact leaf_q (sub_out 39 _ rfl (by kernel_rfl) ⟨(congrArg Value.bool (by rw [decide_eq_true h6, decide_eq_true h7, decide_eq_true h8, decide_eq_true h9, decide_eq_true h10, decide_eq_true h11, decide_eq_true h12] <;> rfl)), trivial⟩)
        ·refine qa 7 ((2, .bool false) :: (40, .bool false) :: (39, undef) :: (38, undef) :: (37, undef) :: (36, .bool false) :: (35, .bool false) :: _) rfl ?_
         exact leaf_q (sub_out 39 _ rfl (by kernel_rfl) ⟨(congrArg Value.bool (by rw [decide_eq_true h6, decide_eq_true h7, decide_eq_true h8, decide_eq_true h9, decide_eq_true h10, decide_eq_true h11, decide_eq_false h12] <;> rfl)), trivial⟩)
       ·refine qa 12 ((2, .bool false) :: (40, .bool false) :: (39, undef) :: (38, undef) :: (37, undef) :: (36, .bool false) :: (35, .bool false) :: (34, undef) :: (33, undef) :: (32, undef) :: (31, .bool false) :: (30, .bool false) :: _) rfl ?_
        exact leaf_q (sub_out 39 _ rfl (by kernel_rfl) ⟨(congrArg Value.bool (by rw [decide_eq_true h6, decide_eq_true h7, decide_eq_true h8, decide_eq_true h9, decide_eq_true h10, decide_eq_false h11] <;> rfl)), trivial⟩)
      ·refine qa 17 ((2, .bool false) :: (40, .bool false) :: (39, undef) :: (38, undef) :: (37, undef) :: (36, .bool false) :: (35, .bool false) :: (34, undef) :: (33, undef) :: (32, undef) :: (31, .bool false) :: (30, .bool false) :: (29, undef) :: (28, undef) :: (27, undef) :: (26, .bool false) :: (25, .bool false) :: _) rfl ?_
       exact leaf_q (sub_out 39 _ rfl (by kernel_rfl) ⟨(congrArg Value.bool (by rw [decide_eq_true h6, decide_eq_true h7, decide_eq_true h8, decide_eq_true h9, decide_eq_false h10] <;> rfl)), trivial⟩)
     ·refine qa 22 ((2, .bool false) :: (40, .bool false) :: (39, undef) :: (38, undef) :: (37, undef) :: (36, .bool false) :: (35, .bool false) :: (34, undef) :: (33, undef) :: (32, undef) :: (31, .bool false) :: (30, .bool false) :: (29, undef) :: (28, undef) :: (27, undef) :: (26, .bool false) :: (25, .bool false) :: (24, undef) :: (23, undef) :: (22, undef) :: (21, .bool false) :: (20, .bool false) :: _) rfl ?_
      exact leaf_q (sub_out 39 _ rfl (by kernel_rfl) ⟨(congrArg Value.bool (by rw [decide_eq_true h6, decide_eq_true h7, decide_eq_true h8, decide_eq_false h9] <;> rfl)), trivial⟩)
    ·refine qa 27 ((2, .bool false) :: (40, .bool false) :: (39, undef) :: (38, undef) :: (37, undef) :: (36, .bool false) :: (35, .bool false) :: (34, undef) :: (33, undef) :: (32, undef) :: (31, .bool false) :: (30, .bool false) :: (29, undef) :: (28, undef) :: (27, undef) :: (26, .bool false) :: (25, .bool false) :: (24, undef) :: (23, undef) :: (22, undef) :: (21, .bool false) :: (20, .bool false) :: (19, undef) :: (18, undef) :: (17, undef) :: (16, .bool false) :: (15, .bool false) :: _) rfl ?_
     exact leaf_q (sub_out 39 _ rfl (by kernel_rfl) ⟨(congrArg Value.bool (by rw [decide_eq_true h6, decide_eq_true h7, decide_eq_false h8] <;> rfl)), trivial⟩)
   ·refine qa 32 ((2, .bool false) :: (40, .bool false) :: (39, undef) :: (38, undef) :: (37, undef) :: (36, .bool false) :: (35, .bool false) :: (34, undef) :: (33, undef) :: (32, undef) :: (31, .bool false) :: (30, .bool false) :: (29, undef) :: (28, undef) :: (27, undef) :: (26, .bool false) :: (25, .bool false) :: (24, undef) :: (23, undef) :: (22, undef) :: (21, .bool false) :: (20, .bool false) :: (19, undef) :: (18, undef) :: (17, undef) :: (16, .bool false) :: (15, .bool false) :: (14, undef) :: (13, undef) :: (12, undef) :: (11, .bool false) :: (10, .bool false) :: _) rfl ?_
    exact leaf_q (sub_out 39 _ rfl (by kernel_rfl) ⟨(congrArg Value.bool (by rw [decide_eq_true h6, decide_eq_false h7] <;> rfl)), trivial⟩)
  ·refine qa 36 ((2, .bool false) :: (40, .bool false) :: (39, undef) :: (38, undef) :: (37, undef) :: (36, .bool false) :: (35, .bool false) :: (34, undef) :: (33, undef) :: (32, undef) :: (31, .bool false) :: (30, .bool false) :: (29, undef) :: (28, undef) :: (27, undef) :: (26, .bool false) :: (25, .bool false) :: (24, undef) :: (23, undef) :: (22, undef) :: (21, .bool false) :: (20, .bool false) :: (19, undef) :: (18, undef) :: (17, undef) :: (16, .bool false) :: (15, .bool false) :: (14, undef) :: (13, undef) :: (12, undef) :: (11, .bool false) :: (10, .bool false) :: (9, undef) :: (8, undef) :: (7, undef) :: (6, .bool false) :: _) rfl ?_
   exact leaf_q (sub_out 39 _ rfl (by kernel_rfl) ⟨(congrArg Value.bool (by rw [decide_eq_false h6] <;> rfl)), trivial⟩)
 refine xm_next ?_
 refine cm_ret ?_
 exact xm_retT rfl (by kernel_rfl) (show _ = Value.bool _ from rfl) fun w1 c1 => ⟨(), rfl, hsub [] (by kernel_rfl) rfl w1 c1⟩
/-- recyclingref53.Check -/
def m_recyclingref53_Check (N : Nat) (p0 : (List ApiTariff)) : Option (Int) :=
 (if (List.length p0 : Int) = 0 then
  some ((10 : Int))
 else
  (if 8 < (List.length p0 : Int) then
   some ((8 : Int))
  else
   (andThen
    (loopM (fun (s69 : Int) =>
     (if s69 < (List.length p0 : Int) then
      ck ((0 : Int) ≤ s69 ∧ s69 < (List.length p0 : Int)) (
       ck ((!(decide ((ix p0 s69).From < 0))) = true → (0 : Int) ≤ s69 ∧ s69 < (List.length p0 : Int)) (
        ck ((!((decide ((ix p0 s69).From < 0)) || (decide (36524 < (ix p0 s69).From)))) = true → (0 : Int) ≤ s69 ∧ s69 < (List.length p0 : Int)) (
         callIf ((!((decide ((ix p0 s69).From < 0)) || (decide (36524 < (ix p0 s69).From)))) = true) (m_recyclingref53_Usable N (ix p0 s69)) fun r75 => (if (((decide ((ix p0 s69).From < 0)) || (decide (36524 < (ix p0 s69).From))) || (!r75)) = true then
          some (.done (.done ((1 : Int))))
         else
          ck (I64 (s69 + (1 : Int))) (
           some (.next (s69 + (1 : Int))))))))
     else
      some (.done (.next ())))) N (0 : Int))
   fun (_s43 : Unit) =>
    (andThen
     (loopM (fun (s123 : Int) =>
      (if s123 < (List.length p0 : Int) then
       ck ((0 : Int) ≤ s123 ∧ s123 < (List.length p0 : Int)) (
        ck (I64 (s123 - (1 : Int))) (
         ck ((0 : Int) ≤ (s123 - (1 : Int)) ∧ (s123 - (1 : Int)) < (List.length p0 : Int)) (
          (if (ix p0 s123).From ≤ (ix p0 (s123 - (1 : Int))).From then
           some (.done (.done ((9 : Int))))
          else
           ck (I64 (s123 + (1 : Int))) (
            some (.next (s123 + (1 : Int))))))))
      else
       some (.done (.next ())))) N (1 : Int))
    fun (_s105 : Unit) =>
     some ((0 : Int))))))
set_option maxHeartbeats 2000000 in
set_option maxRecDepth 20000 in
theorem m_recyclingref53_Check_ok (N : Nat) (w0 : World) (p0 : (List ApiTariff)) (A_p0 : Option Addr) (n_p0 c_p0 : Nat) (hr_p0 : RdE w0 5 encApiTariff A_p0 p0) (hz_p0 : SW A_p0 n_p0 c_p0 (List.length p0)) (r : Int) (hr : m_recyclingref53_Check N p0 = some r) :
  Ret Tryz.prog 40 [.slice A_p0 n_p0 c_p0] w0 (fun (r : Int) (_u : Unit) => .int .i64 r) (fun (_r : Int) (_u : Unit) => []) r := by
 refine calls_v (n := 57) r hr Tryz.func40 ?_
 unfold m_recyclingref53_Check
 refine sr ?_
 refine la 1 ((2, .int .i64 _) :: _) rfl ?_
 refine nn ?_
 refine cm_seq ?_
 refine sr ?_
 refine la 1 ((5, .slice _ _ _) :: _) rfl ?_
 refine v_ 6 (fun _ _ => op_lenN rfl (by kernel_rfl) hz_p0.2.2) ?_
 refine la 1 ((7, .bool _) :: _) rfl ?_
 refine nn ?_
 refine cm_cond (by kernel_rfl) rfl (fun h5 => ?_) (fun h5 => ?_)
 ·refine sr ?_
  refine la 1 ((2, .int .i64 _) :: _) rfl ?_
  refine nn ?_
  refine cm_ret ?_
  refine xm_thenR ?_
  exact xm_retT rfl (by kernel_rfl) (show _ = Value.int .i64 _ from rfl) fun w1 c1 => ⟨(), rfl, hsub [] (by kernel_rfl) rfl w1 c1⟩
 ·refine sk ?_
  refine cm_seq ?_
  refine sr ?_
  refine la 1 ((8, .slice _ _ _) :: _) rfl ?_
  refine v_ 9 (fun _ _ => op_lenN rfl (by kernel_rfl) hz_p0.2.2) ?_
  refine la 1 ((10, .bool _) :: _) rfl ?_
  refine nn ?_
  refine cm_cond (by kernel_rfl) rfl (fun h6 => ?_) (fun h6 => ?_)
  ·refine sr ?_
   refine la 1 ((2, .int .i64 _) :: _) rfl ?_
   refine nn ?_
   refine cm_ret ?_
   refine xm_thenR ?_
   exact xm_retT rfl (by kernel_rfl) (show _ = Value.int .i64 _ from rfl) fun w1 c1 => ⟨(), rfl, hsub [] (by kernel_rfl) rfl w1 c1⟩
  ·refine sk ?_
   refine cm_join (σ := Unit) (ξ := Unit) (fun s43 u44 => [(0, .slice A_p0 n_p0 c_p0)]) (fun s43 u44 => []) ?_ ?_
   ·refine sr ?_
    refine la 1 ((3, .int .i64 _) :: _) rfl ?_
    refine nn ?_
    refine cm_block ?_
    refine cm_loop (σ := Int) (ξ := Unit) (fun s69 u70 => [(0, .slice A_p0 n_p0 c_p0), (3, .int .i64 s69)]) (fun s69 u70 => []) () ?_ ?_ ?_
    ·exact sq
    ·exact sh []
    intro s69 u70
    refine cm_seq ?_
    refine sr ?_
    refine la 2 ((12, .slice _ _ _) :: (11, .int .i64 _) :: _) rfl ?_
    refine v_ 13 (fun _ _ => op_lenN rfl (by kernel_rfl) hz_p0.2.2) ?_
    refine la 1 ((14, .bool _) :: _) rfl ?_
    refine nn ?_
    refine cm_cond (by kernel_rfl) rfl (fun h71 => ?_) (fun h71 => ?_)
    ·refine sk ?_
     refine cm_seq ?_
     refine cm_block ?_
     refine cm_seq ?_
     refine cm_ck (fun h72 => ?_)
     refine cm_ck (fun h73 => ?_)
     refine cm_ck (fun h74 => ?_)
     refine cm_callIf fun r75 h76 => ?_
     refine cm_cutE [(38, .bool (((decide ((ix p0 s69).From < 0)) || (decide (36524 < (ix p0 s69).From))) || (!r75)))] ?_ ?_
     ·refine qa 2 ((18, .int .i64 _) :: (17, .slice _ _ _) :: _) rfl ?_
      refine q_ 19 (fun _ c1 => oI 5 rfl rfl ((hr_p0.old c1).addr h72.1 h72.2) hz_p0.2.2 h72) ?_
      refine q_ 20 (fun _ _ => op_field0 rfl (by kernel_rfl)) ?_
      refine q_ 21 (fun _ c1 => oL (v := .int .i64 ((ix p0 s69).From)) ((hr_p0.old c1).cell0 h72.1 h72.2 rfl)) ?_
      refine qd 22 (fun _ _ => op_lss rfl rfl) (fun h77 => ?_) (fun h77 => ?_)
      ·refine qa 16 ((38, .bool true) :: (37, undef) :: (36, undef) :: (35, undef) :: (34, undef) :: (33, undef) :: (32, undef) :: (31, .bool true) :: (30, .bool true) :: (29, undef) :: (28, undef) :: (27, undef) :: (26, undef) :: (25, undef) :: (24, undef) :: (23, .bool true) :: _) rfl ?_
       exact leaf_q (sub_out 22 _ rfl (by kernel_rfl) ⟨(congrArg Value.bool (by rw [decide_eq_true h77] <;> rfl)), trivial⟩)
      ·refine qa 3 ((25, .int .i64 _) :: (24, .slice _ _ _) :: (23, .bool false) :: _) rfl ?_
       refine q_ 26 (fun _ c1 => oI 5 rfl rfl ((hr_p0.old c1).addr (h73 (by rw [decide_eq_false h77] <;> rfl)).1 (h73 (by rw [decide_eq_false h77] <;> rfl)).2) hz_p0.2.2 (h73 (by rw [decide_eq_false h77] <;> rfl))) ?_
       refine q_ 27 (fun _ _ => op_field0 rfl (by kernel_rfl)) ?_
       refine q_ 28 (fun _ c1 => oL (v := .int .i64 ((ix p0 s69).From)) ((hr_p0.old c1).cell0 (h73 (by rw [decide_eq_false h77] <;> rfl)).1 (h73 (by rw [decide_eq_false h77] <;> rfl)).2 rfl)) ?_
       refine qd 29 (fun _ _ => op_gtr rfl rfl) (fun h78 => ?_) (fun h78 => ?_)
       ·refine qa 9 ((38, .bool true) :: (37, undef) :: (36, undef) :: (35, undef) :: (34, undef) :: (33, undef) :: (32, undef) :: (31, .bool true) :: (30, .bool true) :: _) rfl ?_
        exact leaf_q (sub_out 22 _ rfl (by kernel_rfl) ⟨(congrArg Value.bool (by rw [decide_eq_false h77, decide_eq_true h78] <;> rfl)), trivial⟩)
       ·refine qa 4 ((33, .int .i64 _) :: (32, .slice _ _ _) :: (31, .bool false) :: (30, .bool false) :: _) rfl ?_
        refine q_ 34 (fun _ c1 => oI 5 rfl rfl ((hr_p0.old c1).addr (h74 (by rw [decide_eq_false h77, decide_eq_false h78] <;> rfl)).1 (h74 (by rw [decide_eq_false h77, decide_eq_false h78] <;> rfl)).2) hz_p0.2.2 (h74 (by rw [decide_eq_false h77, decide_eq_false h78] <;> rfl))) ?_
        refine q_ 35 (fun _ c1 => oR [.int .i64 ((ix p0 s69).From), .int .i64 ((ix p0 s69).Base), .int .i64 ((ix p0 s69).Empty), .int .i64 ((ix p0 s69).Kilo), .int .i64 ((ix p0 s69).Free)] ((hr_p0.old c1).row (h74 (by rw [decide_eq_false h77, decide_eq_false h78] <;> rfl)).1 (h74 (by rw [decide_eq_false h77, decide_eq_false h78] <;> rfl)).2)) ?_
        refine wq_call 36 (by kernel_rfl) (fun w1 c1 => op_call (by kernel_rfl)) (fun w1 c1 => (m_recyclingref53_Usable_ok N w1 (ix p0 s69)  r75 (h76 (by rw [decide_eq_false h77, decide_eq_false h78] <;> rfl))).mono (fun _ _ ⟨_, hx, hu⟩ => ⟨hx, c1.call hu⟩)) ?_
        refine qa 2 ((38, .bool _) :: (37, .bool _) :: _) rfl ?_
        exact leaf_q (sub_out 22 _ rfl (by kernel_rfl) ⟨(congrArg Value.bool (by rw [decide_eq_false h77, decide_eq_false h78] <;> rfl)), trivial⟩)
     refine xm_next ?_
     refine cm_condB (by kernel_rfl) rfl (fun h79 => ?_) (fun h79 => ?_)
     ·refine sr ?_
      refine la 1 ((2, .int .i64 _) :: _) rfl ?_
      refine nn ?_
      refine cm_ret ?_
      refine xm_inR ?_
      refine xm_thenR ?_
      refine xm_lret ?_
      refine xm_inR ?_
      refine xm_lret ?_
      exact xm_retT rfl (by kernel_rfl) (show _ = Value.int .i64 _ from rfl) fun w1 c1 => ⟨(), rfl, hsub [] (by kernel_rfl) rfl w1 c1⟩
     ·refine cm_skip ?_
      refine xm_inN ?_
      refine xm_next ?_
      refine cm_region ?_
      refine la 1 ((15, .int .i64 _) :: _) rfl ?_
      refine lm_ck (fun h80 => ?_)
      refine v_ 16 (fun _ _ => op_add rfl rfl h80) ?_
      refine la 1 ((3, .int .i64 _) :: _) rfl ?_
      refine lm_nil ?_
      exact xm_lnext () sq (sh [])
    ·refine cm_exit ?_
     refine xm_thenE ?_
     refine xm_lexit ?_
     refine xm_here ?_
     exact xm_lnext () sq (sh [])
   intro s43 u44
   refine cm_join (σ := Unit) (ξ := Unit) (fun s105 u106 => []) (fun s105 u106 => []) ?_ ?_
   ·refine sr ?_
    refine la 1 ((4, .int .i64 _) :: _) rfl ?_
    refine nn ?_
    refine cm_block ?_
    refine cm_loop (σ := Int) (ξ := Unit) (fun s123 u124 => [(0, .slice A_p0 n_p0 c_p0), (4, .int .i64 s123)]) (fun s123 u124 => []) () ?_ ?_ ?_
    ·exact sq
    ·exact sh []
    intro s123 u124
    refine cm_seq ?_
    refine sr ?_
    refine la 2 ((40, .slice _ _ _) :: (39, .int .i64 _) :: _) rfl ?_
    refine v_ 41 (fun _ _ => op_lenN rfl (by kernel_rfl) hz_p0.2.2) ?_
    refine la 1 ((42, .bool _) :: _) rfl ?_
    refine nn ?_
    refine cm_cond (by kernel_rfl) rfl (fun h125 => ?_) (fun h125 => ?_)
    ·refine sk ?_
     refine cm_seq ?_
     refine cm_block ?_
     refine cm_seq ?_
     refine cm_ck (fun h126 => ?_)
     refine cm_ck (fun h127 => ?_)
     refine cm_ck (fun h128 => ?_)
     refine cm_drawn [(56, .bool (decide ((ix p0 s123).From ≤ (ix p0 (s123 - (1 : Int))).From)))] (by kernel_rfl) (by kernel_rfl) ?_ ?_
     ·refine qa 2 ((46, .int .i64 _) :: (45, .slice _ _ _) :: _) rfl ?_
      refine q_ 47 (fun _ c1 => oI 5 rfl rfl ((hr_p0.old c1).addr h126.1 h126.2) hz_p0.2.2 h126) ?_
      refine q_ 48 (fun _ _ => op_field0 rfl (by kernel_rfl)) ?_
      refine q_ 49 (fun _ c1 => oL (v := .int .i64 ((ix p0 s123).From)) ((hr_p0.old c1).cell0 h126.1 h126.2 rfl)) ?_
      refine qa 2 ((51, .int .i64 _) :: (50, .slice _ _ _) :: _) rfl ?_
      refine q_ 52 (fun _ _ => op_sub rfl rfl h127) ?_
      refine q_ 53 (fun _ c1 => oI 5 rfl rfl ((hr_p0.old c1).addr h128.1 h128.2) hz_p0.2.2 h128) ?_
      refine q_ 54 (fun _ _ => op_field0 rfl (by kernel_rfl)) ?_
      refine q_ 55 (fun _ c1 => oL (v := .int .i64 ((ix p0 (s123 - (1 : Int))).From)) ((hr_p0.old c1).cell0 h128.1 h128.2 rfl)) ?_
      refine qa 1 ((56, .bool _) :: _) rfl ?_
      exact lq 12
     refine xm_next ?_
     refine cm_cond (by kernel_rfl) rfl (fun h129 => ?_) (fun h129 => ?_)
     ·refine sr ?_
      refine la 1 ((2, .int .i64 _) :: _) rfl ?_
      refine nn ?_
      refine cm_ret ?_
      refine xm_inR ?_
      refine xm_thenR ?_
      refine xm_lret ?_
      refine xm_inR ?_
      refine xm_lret ?_
      exact xm_retT rfl (by kernel_rfl) (show _ = Value.int .i64 _ from rfl) fun w1 c1 => ⟨(), rfl, hsub [] (by kernel_rfl) rfl w1 c1⟩
     ·refine cm_skip ?_
      refine xm_inN ?_
      refine xm_next ?_
      refine cm_region ?_
      refine la 1 ((43, .int .i64 _) :: _) rfl ?_
      refine lm_ck (fun h130 => ?_)
      refine v_ 44 (fun _ _ => op_add rfl rfl h130) ?_
      refine la 1 ((4, .int .i64 _) :: _) rfl ?_
      refine lm_nil ?_
      exact xm_lnext () sq (sh [])
    ·refine cm_exit ?_
     refine xm_thenE ?_
     refine xm_lexit ?_
     refine xm_here ?_
     exact xm_lnext () sub_nil (sh [])
   intro s105 u106
   refine sr ?_
   refine la 1 ((2, .int .i64 _) :: _) rfl ?_
   refine nn ?_
   refine cm_ret ?_
   exact xm_retT rfl (by kernel_rfl) (show _ = Value.int .i64 _ from rfl) fun w1 c1 => ⟨(), rfl, hsub [] (by kernel_rfl) rfl w1 c1⟩
/-- recyclingref54.Check -/
def m_recyclingref54_Check (N : Nat) (p0 : ApiAccount) : Option (Int) :=
 Option.bind (m_recyclingref13_Check N p0.Containers (16 : Int) (64 : Int)) fun r6 => (if r6 ≠ 0 then
  some (r6)
 else
  Option.bind (m_recyclingref14_Check N p0.Households (List.length p0.Containers : Int) p0.Assigns) fun r9 => (if r9 ≠ 0 then
   some (r9)
  else
   Option.bind (m_recyclingref18_Check N p0.Emptyings (List.length p0.Containers : Int) (16 : Int)) fun r12 => (if r12 ≠ 0 then
    some (r12)
   else
    Option.bind (m_recyclingref53_Check N p0.Tariffs) fun r15 => (if r15 ≠ 0 then
     some (r15)
    else
     (if ((decide (p0.Gap < 0)) || (decide (86400 < p0.Gap))) = true then
      some ((1 : Int))
     else
      some ((0 : Int)))))))
set_option maxHeartbeats 2000000 in
set_option maxRecDepth 20000 in
theorem m_recyclingref54_Check_ok (N : Nat) (w0 : World) (p0 : ApiAccount) (A_p01 : Option Addr) (n_p01 c_p01 : Nat) (A_p02 : Option Addr) (n_p02 c_p02 : Nat) (A_p03 : Option Addr) (n_p03 c_p03 : Nat) (A_p04 : Option Addr) (n_p04 c_p04 : Nat) (A_p05 : Option Addr) (n_p05 c_p05 : Nat) (hr_p01 : RdE w0 2 encApiHousehold A_p01 p0.Households) (hz_p01 : SW A_p01 n_p01 c_p01 (List.length p0.Households)) (hr_p02 : RdE w0 5 encApiContainer A_p02 p0.Containers) (hz_p02 : SW A_p02 n_p02 c_p02 (List.length p0.Containers)) (hr_p03 : RdE w0 4 encApiAssign A_p03 p0.Assigns) (hz_p03 : SW A_p03 n_p03 c_p03 (List.length p0.Assigns)) (hr_p04 : RdE w0 7 encApiEmptying A_p04 p0.Emptyings) (hz_p04 : SW A_p04 n_p04 c_p04 (List.length p0.Emptyings)) (hr_p05 : RdE w0 5 encApiTariff A_p05 p0.Tariffs) (hz_p05 : SW A_p05 n_p05 c_p05 (List.length p0.Tariffs)) (r : Int) (hr : m_recyclingref54_Check N p0 = some r) :
  Ret Tryz.prog 15 [.agg #[.slice A_p01 n_p01 c_p01, .slice A_p02 n_p02 c_p02, .slice A_p03 n_p03 c_p03, .slice A_p04 n_p04 c_p04, .slice A_p05 n_p05 c_p05, .int .i64 p0.Gap]] w0 (fun (r : Int) (_u : Unit) => .int .i64 r) (fun (_r : Int) (_u : Unit) => []) r := by
 refine calls_v (n := 47) r hr Tryz.func15 ?_
 unfold m_recyclingref54_Check
 refine sr ?_
 refine lm_box 1 [.slice _ _ _, .slice _ _ _, .slice _ _ _, .slice _ _ _, .slice _ _ _, .int .i64 _] (by kernel_rfl) rfl ?_
 intro b5
 refine la 1 ((2, .int .i64 _) :: _) rfl ?_
 refine nn ?_
 refine cm_seq ?_
 refine sr ?_
 refine v_ 7 (fun _ _ => oF 1 1 rfl) ?_
 refine v_ 8 (fun _ c1 => oL (c1.cell 0 (u := .slice _ _ _) rfl rfl)) ?_
 refine lm_call 9 (V := (fun (r : Int) (_u : Unit) => .int .i64 r)) (HR := (fun (_r : Int) (_u : Unit) => [])) (by kernel_rfl) (fun w1 => op_call (by kernel_rfl)) (fun r1 hr1 w1 c1 => m_recyclingref13_Check_ok N w1 p0.Containers (16 : Int) (64 : Int) A_p02 n_p02 c_p02 (hr_p02.old c1) hz_p02 r1 hr1) ?_
 intro r6 u7
 refine la 1 ((3, .int .i64 _) :: _) rfl ?_
 refine nn ?_
 refine sr ?_
 refine la 2 ((11, .bool _) :: (10, .int .i64 _) :: _) rfl ?_
 refine nn ?_
 refine cm_cond (by kernel_rfl) rfl (fun h8 => ?_) (fun h8 => ?_)
 ·refine sr ?_
  refine la 2 ((2, .int .i64 _) :: (12, .int .i64 _) :: _) rfl ?_
  refine nn ?_
  refine cm_ret ?_
  refine xm_thenR ?_
  exact xm_retT rfl (by kernel_rfl) (show _ = Value.int .i64 _ from rfl) fun w1 c1 => ⟨(), rfl, hsub [] (by kernel_rfl) rfl w1 c1⟩
 ·refine sk ?_
  refine cm_seq ?_
  refine sr ?_
  refine v_ 13 (fun _ _ => oF 0 0 rfl) ?_
  refine v_ 14 (fun _ c1 => oL (c1.cell 0 (u := .slice _ _ _) rfl rfl)) ?_
  refine v_ 15 (fun _ _ => oF 1 1 rfl) ?_
  refine v_ 16 (fun _ c1 => oL (c1.cell 0 (u := .slice _ _ _) rfl rfl)) ?_
  refine v_ 17 (fun _ _ => op_lenN rfl (by kernel_rfl) hz_p02.2.2) ?_
  refine v_ 18 (fun _ _ => oF 2 2 rfl) ?_
  refine v_ 19 (fun _ c1 => oL (c1.cell 0 (u := .slice _ _ _) rfl rfl)) ?_
  refine lm_call 20 (V := (fun (r : Int) (_u : Unit) => .int .i64 r)) (HR := (fun (_r : Int) (_u : Unit) => [])) (by kernel_rfl) (fun w1 => op_call (by kernel_rfl)) (fun r1 hr1 w1 c1 => m_recyclingref14_Check_ok N w1 p0.Households (List.length p0.Containers : Int) p0.Assigns A_p01 n_p01 c_p01 A_p03 n_p03 c_p03 (hr_p01.old c1) hz_p01 (hr_p03.old c1) hz_p03 r1 hr1) ?_
  intro r9 u10
  refine la 1 ((4, .int .i64 _) :: _) rfl ?_
  refine nn ?_
  refine sr ?_
  refine la 2 ((22, .bool _) :: (21, .int .i64 _) :: _) rfl ?_
  refine nn ?_
  refine cm_cond (by kernel_rfl) rfl (fun h11 => ?_) (fun h11 => ?_)
  ·refine sr ?_
   refine la 2 ((2, .int .i64 _) :: (23, .int .i64 _) :: _) rfl ?_
   refine nn ?_
   refine cm_ret ?_
   refine xm_thenR ?_
   exact xm_retT rfl (by kernel_rfl) (show _ = Value.int .i64 _ from rfl) fun w1 c1 => ⟨(), rfl, hsub [] (by kernel_rfl) rfl w1 c1⟩
  ·refine sk ?_
   refine cm_seq ?_
   refine sr ?_
   refine v_ 24 (fun _ _ => oF 3 3 rfl) ?_
   refine v_ 25 (fun _ c1 => oL (c1.cell 0 (u := .slice _ _ _) rfl rfl)) ?_
   refine v_ 26 (fun _ _ => oF 1 1 rfl) ?_
   refine v_ 27 (fun _ c1 => oL (c1.cell 0 (u := .slice _ _ _) rfl rfl)) ?_
   refine v_ 28 (fun _ _ => op_lenN rfl (by kernel_rfl) hz_p02.2.2) ?_
   refine lm_call 29 (V := (fun (r : Int) (_u : Unit) => .int .i64 r)) (HR := (fun (_r : Int) (_u : Unit) => [])) (by kernel_rfl) (fun w1 => op_call (by kernel_rfl)) (fun r1 hr1 w1 c1 => m_recyclingref18_Check_ok N w1 p0.Emptyings (List.length p0.Containers : Int) (16 : Int) A_p04 n_p04 c_p04 (hr_p04.old c1) hz_p04 r1 hr1) ?_
   intro r12 u13
   refine la 1 ((5, .int .i64 _) :: _) rfl ?_
   refine nn ?_
   refine sr ?_
   refine la 2 ((31, .bool _) :: (30, .int .i64 _) :: _) rfl ?_
   refine nn ?_
   refine cm_cond (by kernel_rfl) rfl (fun h14 => ?_) (fun h14 => ?_)
   ·refine sr ?_
    refine la 2 ((2, .int .i64 _) :: (32, .int .i64 _) :: _) rfl ?_
    refine nn ?_
    refine cm_ret ?_
    refine xm_thenR ?_
    exact xm_retT rfl (by kernel_rfl) (show _ = Value.int .i64 _ from rfl) fun w1 c1 => ⟨(), rfl, hsub [] (by kernel_rfl) rfl w1 c1⟩
   ·refine sk ?_
    refine cm_seq ?_
    refine sr ?_
    refine v_ 33 (fun _ _ => oF 4 4 rfl) ?_
    refine v_ 34 (fun _ c1 => oL (c1.cell 0 (u := .slice _ _ _) rfl rfl)) ?_
    refine lm_call 35 (V := (fun (r : Int) (_u : Unit) => .int .i64 r)) (HR := (fun (_r : Int) (_u : Unit) => [])) (by kernel_rfl) (fun w1 => op_call (by kernel_rfl)) (fun r1 hr1 w1 c1 => m_recyclingref53_Check_ok N w1 p0.Tariffs A_p05 n_p05 c_p05 (hr_p05.old c1) hz_p05 r1 hr1) ?_
    intro r15 u16
    refine la 1 ((6, .int .i64 _) :: _) rfl ?_
    refine nn ?_
    refine sr ?_
    refine la 2 ((37, .bool _) :: (36, .int .i64 _) :: _) rfl ?_
    refine nn ?_
    refine cm_cond (by kernel_rfl) rfl (fun h17 => ?_) (fun h17 => ?_)
    ·refine sr ?_
     refine la 2 ((2, .int .i64 _) :: (38, .int .i64 _) :: _) rfl ?_
     refine nn ?_
     refine cm_ret ?_
     refine xm_thenR ?_
     exact xm_retT rfl (by kernel_rfl) (show _ = Value.int .i64 _ from rfl) fun w1 c1 => ⟨(), rfl, hsub [] (by kernel_rfl) rfl w1 c1⟩
    ·refine sk ?_
     refine cm_seq ?_
     refine cm_seq ?_
     refine cm_cutE [(46, .bool ((decide (p0.Gap < 0)) || (decide (86400 < p0.Gap))))] ?_ ?_
     ·refine q_ 39 (fun _ _ => oF 5 5 rfl) ?_
      refine q_ 40 (fun _ c1 => oL (c1.cell 0 (u := .int .i64 _) rfl rfl)) ?_
      refine qd 41 (fun _ _ => op_lss rfl rfl) (fun h18 => ?_) (fun h18 => ?_)
      ·refine qa 5 ((46, .bool true) :: (45, undef) :: (44, undef) :: (43, undef) :: (42, .bool true) :: _) rfl ?_
       exact leaf_q (sub_out 8 _ rfl (by kernel_rfl) ⟨(congrArg Value.bool (by rw [decide_eq_true h18] <;> rfl)), trivial⟩)
      ·refine qa 1 ((42, .bool false) :: _) rfl ?_
       refine q_ 43 (fun _ _ => oF 5 5 rfl) ?_
       refine q_ 44 (fun _ c1 => oL (c1.cell 0 (u := .int .i64 _) rfl rfl)) ?_
       refine qa 2 ((46, .bool _) :: (45, .bool _) :: _) rfl ?_
       exact leaf_q (sub_out 8 _ rfl (by kernel_rfl) ⟨(congrArg Value.bool (by rw [decide_eq_false h18] <;> rfl)), trivial⟩)
     refine xm_next ?_
     refine cm_condB (by kernel_rfl) rfl (fun h19 => ?_) (fun h19 => ?_)
     ·refine sr ?_
      refine la 1 ((2, .int .i64 _) :: _) rfl ?_
      refine nn ?_
      refine cm_ret ?_
      refine xm_thenR ?_
      exact xm_retT rfl (by kernel_rfl) (show _ = Value.int .i64 _ from rfl) fun w1 c1 => ⟨(), rfl, hsub [] (by kernel_rfl) rfl w1 c1⟩
     ·refine sk ?_
      refine sr ?_
      refine la 1 ((2, .int .i64 _) :: _) rfl ?_
      refine nn ?_
      refine cm_ret ?_
      exact xm_retT rfl (by kernel_rfl) (show _ = Value.int .i64 _ from rfl) fun w1 c1 => ⟨(), rfl, hsub [] (by kernel_rfl) rfl w1 c1⟩
end Go.Proofs.YtpbgfdmkebnjgaaGreatDoor
