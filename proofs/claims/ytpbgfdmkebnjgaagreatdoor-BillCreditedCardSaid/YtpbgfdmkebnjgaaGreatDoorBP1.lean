/- Models of functions, and that the code follows them. Written by deco.py. -/
import Derived.Test.YtpbgfdmkebnjgaaGreatDoorKD
import Derived.Test.YtpbgfdmkebnjgaaGreatDoorKC
import Derived.Test.YtpbgfdmkebnjgaaGreatDoorShelf
namespace Go.Proofs.YtpbgfdmkebnjgaaGreatDoor
open Go.RowKit
set_option linter.unusedSectionVars false
variable [JF]

structure ApiSpan where
 Lo : Int
 Hi : Int
deriving DecidableEq, Inhabited
def encApiSpan (x : ApiSpan) : List Value := [.int .i64 x.Lo, .int .i64 x.Hi]
def valApiSpan (x : ApiSpan) : Value := .agg #[.int .i64 x.Lo, .int .i64 x.Hi]
theorem encApiSpan_len (x : ApiSpan) : (encApiSpan x).length = 2 := rfl
theorem encApiSpan_one (x : ApiSpan) : (encApiSpan x).all Value.oneCell' = true := rfl
structure ApiEmptying where
 ID : Int
 Container : Int
 Vehicle : Int
 At : Int
 Mass : ApiSpan
 Void : Bool
deriving DecidableEq, Inhabited
def encApiEmptying (x : ApiEmptying) : List Value := [.int .i64 x.ID, .int .i64 x.Container, .int .i64 x.Vehicle, .int .i64 x.At, .int .i64 x.Mass.Lo, .int .i64 x.Mass.Hi, .bool x.Void]
def valApiEmptying (x : ApiEmptying) : Value := .agg #[.int .i64 x.ID, .int .i64 x.Container, .int .i64 x.Vehicle, .int .i64 x.At, .int .i64 x.Mass.Lo, .int .i64 x.Mass.Hi, .bool x.Void]
theorem encApiEmptying_len (x : ApiEmptying) : (encApiEmptying x).length = 7 := rfl
theorem encApiEmptying_one (x : ApiEmptying) : (encApiEmptying x).all Value.oneCell' = true := rfl
structure ApiWindow where
 From : Int
 To : Int
deriving DecidableEq, Inhabited
def encApiWindow (x : ApiWindow) : List Value := [.int .i64 x.From, .int .i64 x.To]
def valApiWindow (x : ApiWindow) : Value := .agg #[.int .i64 x.From, .int .i64 x.To]
theorem encApiWindow_len (x : ApiWindow) : (encApiWindow x).length = 2 := rfl
theorem encApiWindow_one (x : ApiWindow) : (encApiWindow x).all Value.oneCell' = true := rfl
structure ApiAssign where
 Container : Int
 Household : Int
 When : ApiWindow
deriving DecidableEq, Inhabited
def encApiAssign (x : ApiAssign) : List Value := [.int .i64 x.Container, .int .i64 x.Household, .int .i64 x.When.From, .int .i64 x.When.To]
def valApiAssign (x : ApiAssign) : Value := .agg #[.int .i64 x.Container, .int .i64 x.Household, .int .i64 x.When.From, .int .i64 x.When.To]
theorem encApiAssign_len (x : ApiAssign) : (encApiAssign x).length = 4 := rfl
theorem encApiAssign_one (x : ApiAssign) : (encApiAssign x).all Value.oneCell' = true := rfl
/-- emptying.within -/
def m_emptying_within (_N : Nat) (p0 : Int) (p1 : Int) (p2 : Int) : Option (Bool) :=
 some (((decide (p1 ≤ p0)) && (decide (p0 ≤ p2))))
set_option maxRecDepth 20000 in
theorem m_emptying_within_ok (N : Nat) (w0 : World) (p0 : Int) (p1 : Int) (p2 : Int)   (r : Bool) (hr : m_emptying_within N p0 p1 p2 = some r) :
  Ret Tryz.prog 95 [.int .i64 p0, .int .i64 p1, .int .i64 p2] w0 (fun (r : Bool) (_u : Unit) => .bool r) (fun (_r : Bool) (_u : Unit) => []) r := by
 refine calls_v (n := 15) r hr Tryz.func95 ?_
 unfold m_emptying_within
 refine sr ?_
 refine la 1 ((6, .bool false) :: _) rfl ?_
 refine nn ?_
 refine cm_seq ?_
 refine cm_cutE [(6, .bool ((decide (p1 ≤ p0)) && (decide (p0 ≤ p2))))] ?_ ?_
 ·refine qa 2 ((8, .int .i64 _) :: (7, .int .i64 _) :: _) rfl ?_
  refine qd 9 (fun _ _ => op_geq rfl rfl) (fun h5 => ?_) (fun h5 => ?_)
  ·refine qa 6 ((6, .bool _) :: (14, .bool _) :: (13, .bool _) :: (12, .int .i64 _) :: (11, .int .i64 _) :: (10, .bool true) :: _) rfl ?_
   exact leaf_q (sub_out 9 _ rfl (by kernel_rfl) ⟨(congrArg Value.bool (by rw [decide_eq_true h5] <;> rfl)), trivial⟩)
  ·refine qa 6 ((6, .bool false) :: (14, .bool false) :: (13, undef) :: (12, undef) :: (11, undef) :: (10, .bool false) :: _) rfl ?_
   exact leaf_q (sub_out 9 _ rfl (by kernel_rfl) ⟨(congrArg Value.bool (by rw [decide_eq_false h5] <;> rfl)), trivial⟩)
 refine xm_next ?_
 refine cm_ret ?_
 exact xm_retT rfl (by kernel_rfl) (show _ = Value.bool _ from rfl) fun w1 c1 => ⟨(), rfl, hsub [] (by kernel_rfl) rfl w1 c1⟩
/-- emptying.one -/
def m_emptying_one (N : Nat) (p0 : ApiEmptying) (p1 : Int) (p2 : Int) : Option (Int) :=
 Option.bind (m_emptying_within N p0.ID (1 : Int) (1000000 : Int)) fun r6 => (if (!r6) = true then
  some ((1 : Int))
 else
  (if ((((decide (p0.Container < 0)) || (decide (p1 ≤ p0.Container))) || (decide (p0.Vehicle < 0))) || (decide (p2 ≤ p0.Vehicle))) = true then
   some ((7 : Int))
  else
   Option.bind (m_emptying_within N p0.At (0 : Int) (3155759999 : Int)) fun r13 => (if ((((!r13) || (decide (p0.Mass.Lo < 0))) || (decide (p0.Mass.Hi < p0.Mass.Lo))) || (decide (1073741824 < p0.Mass.Hi))) = true then
    some ((1 : Int))
   else
    some ((0 : Int)))))
set_option maxHeartbeats 2000000 in
set_option maxRecDepth 20000 in
theorem m_emptying_one_ok (N : Nat) (w0 : World) (p0 : ApiEmptying) (p1 : Int) (p2 : Int)   (r : Int) (hr : m_emptying_one N p0 p1 p2 = some r) :
  Ret Tryz.prog 78 [.agg #[.int .i64 p0.ID, .int .i64 p0.Container, .int .i64 p0.Vehicle, .int .i64 p0.At, .int .i64 p0.Mass.Lo, .int .i64 p0.Mass.Hi, .bool p0.Void], .int .i64 p1, .int .i64 p2] w0 (fun (r : Int) (_u : Unit) => .int .i64 r) (fun (_r : Int) (_u : Unit) => []) r := by
 refine calls_v (n := 59) r hr Tryz.func78 ?_
 unfold m_emptying_one
 refine sr ?_
 refine lm_box 3 [.int .i64 _, .int .i64 _, .int .i64 _, .int .i64 _, .int .i64 _, .int .i64 _, .bool _] (by kernel_rfl) rfl ?_
 intro b5
 refine la 1 ((6, .int .i64 _) :: _) rfl ?_
 refine nn ?_
 refine cm_seq ?_
 refine cm_block ?_
 refine sr ?_
 refine v_ 8 (fun _ _ => oF 0 0 rfl) ?_
 refine v_ 9 (fun _ c1 => oL (c1.cell 0 (u := .int .i64 _) rfl rfl)) ?_
 refine lm_call 10 (V := (fun (r : Bool) (_u : Unit) => .bool r)) (HR := (fun (_r : Bool) (_u : Unit) => [])) (by kernel_rfl) (fun w1 => op_call (by kernel_rfl)) (fun r1 hr1 w1 c1 => m_emptying_within_ok N w1 p0.ID (1 : Int) (1000000 : Int)  r1 hr1) ?_
 intro r6 u7
 refine la 2 ((7, .bool _) :: (11, .bool _) :: _) rfl ?_
 refine nn ?_
 refine cm_condB (by kernel_rfl) rfl (fun h8 => ?_) (fun h8 => ?_)
 ·refine sr ?_
  refine la 1 ((6, .int .i64 _) :: _) rfl ?_
  refine nn ?_
  refine cm_ret ?_
  refine xm_inR ?_
  refine xm_thenR ?_
  exact xm_retT rfl (by kernel_rfl) (show _ = Value.int .i64 _ from rfl) fun w1 c1 => ⟨(), rfl, hsub [] (by kernel_rfl) rfl w1 c1⟩
 ·refine cm_seq ?_
  refine cm_cutE [(12, .bool ((((decide (p0.Container < 0)) || (decide (p1 ≤ p0.Container))) || (decide (p0.Vehicle < 0))) || (decide (p2 ≤ p0.Vehicle))))] ?_ ?_
  ·refine q_ 13 (fun _ _ => oF 1 1 rfl) ?_
   refine q_ 14 (fun _ c1 => oL (c1.cell 0 (u := .int .i64 _) rfl rfl)) ?_
   refine qd 15 (fun _ _ => op_lss rfl rfl) (fun h9 => ?_) (fun h9 => ?_)
   ·refine qa 18 ((12, .bool true) :: (32, .bool true) :: (31, undef) :: (30, undef) :: (29, undef) :: (28, undef) :: (27, .bool true) :: (26, .bool true) :: (25, undef) :: (24, undef) :: (23, undef) :: (22, .bool true) :: (21, .bool true) :: (20, undef) :: (19, undef) :: (18, undef) :: (17, undef) :: (16, .bool true) :: _) rfl ?_
    exact leaf_q (sub_out 21 _ rfl (by kernel_rfl) ⟨(congrArg Value.bool (by rw [decide_eq_true h9] <;> rfl)), trivial⟩)
   ·refine qa 1 ((16, .bool false) :: _) rfl ?_
    refine q_ 17 (fun _ _ => oF 1 1 rfl) ?_
    refine q_ 18 (fun _ c1 => oL (c1.cell 0 (u := .int .i64 _) rfl rfl)) ?_
    refine qa 1 ((19, .int .i64 _) :: _) rfl ?_
    refine qd 20 (fun _ _ => op_geq rfl rfl) (fun h10 => ?_) (fun h10 => ?_)
    ·refine qa 13 ((12, .bool true) :: (32, .bool true) :: (31, undef) :: (30, undef) :: (29, undef) :: (28, undef) :: (27, .bool true) :: (26, .bool true) :: (25, undef) :: (24, undef) :: (23, undef) :: (22, .bool true) :: (21, .bool true) :: _) rfl ?_
     exact leaf_q (sub_out 21 _ rfl (by kernel_rfl) ⟨(congrArg Value.bool (by rw [decide_eq_false h9, decide_eq_true h10] <;> rfl)), trivial⟩)
    ·refine qa 2 ((22, .bool false) :: (21, .bool false) :: _) rfl ?_
     refine q_ 23 (fun _ _ => oF 2 2 rfl) ?_
     refine q_ 24 (fun _ c1 => oL (c1.cell 0 (u := .int .i64 _) rfl rfl)) ?_
     refine qd 25 (fun _ _ => op_lss rfl rfl) (fun h11 => ?_) (fun h11 => ?_)
     ·refine qa 8 ((12, .bool true) :: (32, .bool true) :: (31, undef) :: (30, undef) :: (29, undef) :: (28, undef) :: (27, .bool true) :: (26, .bool true) :: _) rfl ?_
      exact leaf_q (sub_out 21 _ rfl (by kernel_rfl) ⟨(congrArg Value.bool (by rw [decide_eq_false h9, decide_eq_false h10, decide_eq_true h11] <;> rfl)), trivial⟩)
     ·refine qa 2 ((27, .bool false) :: (26, .bool false) :: _) rfl ?_
      refine q_ 28 (fun _ _ => oF 2 2 rfl) ?_
      refine q_ 29 (fun _ c1 => oL (c1.cell 0 (u := .int .i64 _) rfl rfl)) ?_
      refine qa 4 ((12, .bool _) :: (32, .bool _) :: (31, .bool _) :: (30, .int .i64 _) :: _) rfl ?_
      exact leaf_q (sub_out 21 _ rfl (by kernel_rfl) ⟨(congrArg Value.bool (by rw [decide_eq_false h9, decide_eq_false h10, decide_eq_false h11] <;> rfl)), trivial⟩)
  refine xm_next ?_
  refine cm_condB (by kernel_rfl) rfl (fun h12 => ?_) (fun h12 => ?_)
  ·refine sr ?_
   refine la 1 ((6, .int .i64 _) :: _) rfl ?_
   refine nn ?_
   refine cm_ret ?_
   refine xm_inR ?_
   refine xm_thenR ?_
   exact xm_retT rfl (by kernel_rfl) (show _ = Value.int .i64 _ from rfl) fun w1 c1 => ⟨(), rfl, hsub [] (by kernel_rfl) rfl w1 c1⟩
  ·refine cm_seq ?_
   refine cm_bind fun r13 h14 => ?_
   refine cm_cutE [(33, .bool ((((!r13) || (decide (p0.Mass.Lo < 0))) || (decide (p0.Mass.Hi < p0.Mass.Lo))) || (decide (1073741824 < p0.Mass.Hi))))] ?_ ?_
   ·refine q_ 34 (fun _ _ => oF 3 3 rfl) ?_
    refine q_ 35 (fun _ c1 => oL (c1.cell 0 (u := .int .i64 _) rfl rfl)) ?_
    refine wq_callb 36 (by kernel_rfl) (fun w1 c1 => op_call (by kernel_rfl)) (fun w1 c1 => (m_emptying_within_ok N w1 p0.At (0 : Int) (3155759999 : Int)  r13 h14).mono (fun _ _ ⟨_, hx, hu⟩ => ⟨hx, c1.call hu⟩)) (fun h15 => ?_) (fun h15 => ?_)
    ·refine qa 2 ((38, .bool false) :: (37, .bool false) :: _) rfl ?_
     refine q_ 39 (fun _ _ => oF 4 4 rfl) ?_
     refine q_ 40 (fun _ _ => oF 0 4 rfl) ?_
     refine q_ 41 (fun _ c1 => oL (c1.cell 0 (u := .int .i64 _) rfl rfl)) ?_
     refine qd 42 (fun _ _ => op_lss rfl rfl) (fun h16 => ?_) (fun h16 => ?_)
     ·refine qa 17 ((33, .bool true) :: (58, .bool true) :: (57, undef) :: (56, undef) :: (55, undef) :: (54, undef) :: (53, .bool true) :: (52, .bool true) :: (51, undef) :: (50, undef) :: (49, undef) :: (48, undef) :: (47, undef) :: (46, undef) :: (45, undef) :: (44, .bool true) :: (43, .bool true) :: _) rfl ?_
      exact leaf_q (sub_out 26 _ rfl (by kernel_rfl) ⟨(congrArg Value.bool (by rw [h15, decide_eq_true h16] <;> rfl)), trivial⟩)
     ·refine qa 2 ((44, .bool false) :: (43, .bool false) :: _) rfl ?_
      refine q_ 45 (fun _ _ => oF 4 4 rfl) ?_
      refine q_ 46 (fun _ _ => oF 0 4 rfl) ?_
      refine q_ 47 (fun _ c1 => oL (c1.cell 0 (u := .int .i64 _) rfl rfl)) ?_
      refine q_ 48 (fun _ _ => oF 4 4 rfl) ?_
      refine q_ 49 (fun _ _ => oF 1 5 rfl) ?_
      refine q_ 50 (fun _ c1 => oL (c1.cell 0 (u := .int .i64 _) rfl rfl)) ?_
      refine qd 51 (fun _ _ => op_gtr rfl rfl) (fun h17 => ?_) (fun h17 => ?_)
      ·refine qa 8 ((33, .bool true) :: (58, .bool true) :: (57, undef) :: (56, undef) :: (55, undef) :: (54, undef) :: (53, .bool true) :: (52, .bool true) :: _) rfl ?_
       exact leaf_q (sub_out 26 _ rfl (by kernel_rfl) ⟨(congrArg Value.bool (by rw [h15, decide_eq_false h16, decide_eq_true h17] <;> rfl)), trivial⟩)
      ·refine qa 2 ((53, .bool false) :: (52, .bool false) :: _) rfl ?_
       refine q_ 54 (fun _ _ => oF 4 4 rfl) ?_
       refine q_ 55 (fun _ _ => oF 1 5 rfl) ?_
       refine q_ 56 (fun _ c1 => oL (c1.cell 0 (u := .int .i64 _) rfl rfl)) ?_
       refine qa 3 ((33, .bool _) :: (58, .bool _) :: (57, .bool _) :: _) rfl ?_
       exact leaf_q (sub_out 26 _ rfl (by kernel_rfl) ⟨(congrArg Value.bool (by rw [h15, decide_eq_false h16, decide_eq_false h17] <;> rfl)), trivial⟩)
    ·refine qa 23 ((33, .bool true) :: (58, .bool true) :: (57, undef) :: (56, undef) :: (55, undef) :: (54, undef) :: (53, .bool true) :: (52, .bool true) :: (51, undef) :: (50, undef) :: (49, undef) :: (48, undef) :: (47, undef) :: (46, undef) :: (45, undef) :: (44, .bool true) :: (43, .bool true) :: (42, undef) :: (41, undef) :: (40, undef) :: (39, undef) :: (38, .bool true) :: (37, .bool true) :: _) rfl ?_
     exact leaf_q (sub_out 26 _ rfl (by kernel_rfl) ⟨(congrArg Value.bool (by rw [h15] <;> rfl)), trivial⟩)
   refine xm_next ?_
   refine cm_condB (by kernel_rfl) rfl (fun h18 => ?_) (fun h18 => ?_)
   ·refine sr ?_
    refine la 1 ((6, .int .i64 _) :: _) rfl ?_
    refine nn ?_
    refine cm_ret ?_
    refine xm_inR ?_
    refine xm_thenR ?_
    exact xm_retT rfl (by kernel_rfl) (show _ = Value.int .i64 _ from rfl) fun w1 c1 => ⟨(), rfl, hsub [] (by kernel_rfl) rfl w1 c1⟩
   ·refine cm_skip ?_
    refine xm_inN ?_
    refine xm_next ?_
    refine sr ?_
    refine la 1 ((6, .int .i64 _) :: _) rfl ?_
    refine nn ?_
    refine cm_ret ?_
    exact xm_retT rfl (by kernel_rfl) (show _ = Value.int .i64 _ from rfl) fun w1 c1 => ⟨(), rfl, hsub [] (by kernel_rfl) rfl w1 c1⟩
/-- emptying.Check -/
def m_emptying_Check (N : Nat) (p0 : (List ApiEmptying)) (p1 : Int) (p2 : Int) : Option (Int) :=
 (if 512 < (List.length p0 : Int) then
  some ((8 : Int))
 else
  (andThen
   (loopM (fun (s53 : Int) =>
    (if s53 < (List.length p0 : Int) then
     ck ((0 : Int) ≤ s53 ∧ s53 < (List.length p0 : Int)) (
      Option.bind (m_emptying_one N (ix p0 s53) p1 p2) fun r58 => (if r58 ≠ 0 then
       some (.done (.done (r58)))
      else
       ck (I64 (s53 + (1 : Int))) (
        some (.next (s53 + (1 : Int))))))
    else
     some (.done (.next ())))) N (0 : Int))
  fun (_s33 : Unit) =>
   (andThen
    (loopM (fun (s110 : (List (Int × Bool)) × Int) =>
     (if s110.2 < (List.length p0 : Int) then
      ck ((0 : Int) ≤ s110.2 ∧ s110.2 < (List.length p0 : Int)) (
       ck (I64 ((ix p0 s110.2).ID)) (
        (if (Option.getD (mget s110.1 ((ix p0 s110.2).ID)) false) = true then
         some (.done (.done ((6 : Int))))
        else
         ck (I64 ((ix p0 s110.2).ID)) (
          ck (I64 (s110.2 + (1 : Int))) (
           some (.next ((mput s110.1 ((ix p0 s110.2).ID) true), (s110.2 + (1 : Int)))))))))
     else
      some (.done (.next ())))) N (([] : (List (Int × Bool))), (0 : Int)))
   fun (_s90 : Unit) =>
    some ((0 : Int)))))
set_option maxHeartbeats 2000000 in
set_option maxRecDepth 20000 in
theorem m_emptying_Check_ok (N : Nat) (w0 : World) (p0 : (List ApiEmptying)) (p1 : Int) (p2 : Int) (A_p0 : Option Addr) (n_p0 c_p0 : Nat) (hr_p0 : RdE w0 7 encApiEmptying A_p0 p0) (hz_p0 : SW A_p0 n_p0 c_p0 (List.length p0)) (r : Int) (hr : m_emptying_Check N p0 p1 p2 = some r) :
  Ret Tryz.prog 35 [.slice A_p0 n_p0 c_p0, .int .i64 p1, .int .i64 p2] w0 (fun (r : Int) (_u : Unit) => .int .i64 r) (fun (_r : Int) (_u : Unit) => []) r := by
 refine calls_v (n := 45) r hr Tryz.func35 ?_
 unfold m_emptying_Check
 refine sr ?_
 refine la 1 ((6, .int .i64 _) :: _) rfl ?_
 refine nn ?_
 refine cm_seq ?_
 refine sr ?_
 refine la 1 ((13, .slice _ _ _) :: _) rfl ?_
 refine v_ 14 (fun _ _ => op_lenN rfl (by kernel_rfl) hz_p0.2.2) ?_
 refine la 1 ((15, .bool _) :: _) rfl ?_
 refine nn ?_
 refine cm_cond (by kernel_rfl) rfl (fun h5 => ?_) (fun h5 => ?_)
 ·refine sr ?_
  refine la 1 ((6, .int .i64 _) :: _) rfl ?_
  refine nn ?_
  refine cm_ret ?_
  refine xm_thenR ?_
  exact xm_retT rfl (by kernel_rfl) (show _ = Value.int .i64 _ from rfl) fun w1 c1 => ⟨(), rfl, hsub [] (by kernel_rfl) rfl w1 c1⟩
 ·refine sk ?_
  refine cm_join (σ := Unit) (ξ := Unit) (fun s33 u34 => [(0, .slice A_p0 n_p0 c_p0)]) (fun s33 u34 => []) ?_ ?_
  ·refine sr ?_
   refine la 1 ((16, .slice _ _ _) :: _) rfl ?_
   refine v_ 17 (fun _ _ => op_lenN rfl (by kernel_rfl) hz_p0.2.2) ?_
   refine la 1 ((18, .int .i64 _) :: _) rfl ?_
   refine nn ?_
   refine cm_block ?_
   refine cm_loop (σ := Int) (ξ := Unit) (fun s53 u54 => [(0, .slice A_p0 n_p0 c_p0), (1, .int .i64 p1), (2, .int .i64 p2), (16, .slice A_p0 n_p0 c_p0), (17, .int .i64 (List.length p0 : Int)), (18, .int .i64 s53)]) (fun s53 u54 => []) () ?_ ?_ ?_
   ·exact sq
   ·exact sh []
   intro s53 u54
   refine sr ?_
   refine la 1 ((19, .bool _) :: _) rfl ?_
   refine nn ?_
   refine cm_seq ?_
   refine cm_cond (by kernel_rfl) rfl (fun h55 => ?_) (fun h55 => ?_)
   ·refine sk ?_
    refine cm_seq ?_
    refine cm_block ?_
    refine sr ?_
    refine lm_ck (fun h56 => ?_)
    refine v_ 20 (fun _ c1 => oI 7 rfl rfl ((hr_p0.old c1).addr h56.1 h56.2) hz_p0.2.2 h56) ?_
    refine v_ 21 (fun _ c1 => oR [.int .i64 ((ix p0 s53).ID), .int .i64 ((ix p0 s53).Container), .int .i64 ((ix p0 s53).Vehicle), .int .i64 ((ix p0 s53).At), .int .i64 ((ix p0 s53).Mass.Lo), .int .i64 ((ix p0 s53).Mass.Hi), .bool ((ix p0 s53).Void)] ((hr_p0.old c1).row h56.1 h56.2)) ?_
    refine lm_alloc 8 [.int .i64 0, .int .i64 0, .int .i64 0, .int .i64 0, .int .i64 0, .int .i64 0, .bool false] (v := .agg #[.int .i64 0, .int .i64 0, .int .i64 0, .int .i64 0, .int .i64 0, .int .i64 0, .bool false]) (by kernel_rfl) (by kernel_rfl) rfl ?_
    intro b57
    refine lm_storeA 0 [.int .i64 _, .int .i64 _, .int .i64 _, .int .i64 _, .int .i64 _, .int .i64 _, .bool _] [_, _, _, _, _, _, _] (H' := [blkE _ _ [_, _, _, _, _, _, _]]) (by kernel_rfl) rfl rfl (by kernel_rfl) rfl rfl (by kernel_rfl) rfl rfl ?_
    refine nn ?_
    refine sr ?_
    refine v_ 22 (fun _ c1 => oR [.int .i64 _, .int .i64 _, .int .i64 _, .int .i64 _, .int .i64 _, .int .i64 _, .bool _] (c1.cells 0 rfl rfl)) ?_
    refine la 2 ((24, .int .i64 _) :: (23, .int .i64 _) :: _) rfl ?_
    refine lm_call 25 (V := (fun (r : Int) (_u : Unit) => .int .i64 r)) (HR := (fun (_r : Int) (_u : Unit) => [])) (by kernel_rfl) (fun w1 => op_call (by kernel_rfl)) (fun r1 hr1 w1 c1 => m_emptying_one_ok N w1 (ix p0 s53) p1 p2  r1 hr1) ?_
    intro r58 u59
    refine la 1 ((9, .int .i64 _) :: _) rfl ?_
    refine nn ?_
    refine sr ?_
    refine la 2 ((27, .bool _) :: (26, .int .i64 _) :: _) rfl ?_
    refine nn ?_
    refine cm_cond (by kernel_rfl) rfl (fun h60 => ?_) (fun h60 => ?_)
    ·refine sr ?_
     refine la 2 ((6, .int .i64 _) :: (28, .int .i64 _) :: _) rfl ?_
     refine nn ?_
     refine cm_ret ?_
     refine xm_inR ?_
     refine xm_thenR ?_
     refine xm_lret ?_
     refine xm_inR ?_
     refine xm_lret ?_
     exact xm_retT rfl (by kernel_rfl) (show _ = Value.int .i64 _ from rfl) fun w1 c1 => ⟨(), rfl, hsub [] (by kernel_rfl) rfl w1 c1⟩
    ·refine cm_skip ?_
     refine xm_inN ?_
     refine xm_next ?_
     refine cm_region ?_
     refine lm_ck (fun h61 => ?_)
     refine v_ 29 (fun _ _ => op_add rfl rfl h61) ?_
     refine la 1 ((18, .int .i64 _) :: _) rfl ?_
     refine lm_nil ?_
     exact xm_lnext () sq (sh [])
   ·refine cm_exit ?_
    refine xm_thenE ?_
    refine xm_lexit ?_
    refine xm_here ?_
    exact xm_lnext () sq (sh [])
  intro s33 u34
  refine sr ?_
  refine lm_makeMap (κ := Int) (α := Bool) 30 3 (Value.int .i64) Value.bool (by kernel_rfl) ?_
  intro b62
  refine la 1 ((10, .map (some _)) :: _) rfl ?_
  refine nn ?_
  refine cm_join (σ := Unit) (ξ := Unit) (fun s90 u91 => []) (fun s90 u91 => []) ?_ ?_
  ·refine sr ?_
   refine la 1 ((31, .slice _ _ _) :: _) rfl ?_
   refine v_ 32 (fun _ _ => op_lenN rfl (by kernel_rfl) hz_p0.2.2) ?_
   refine la 1 ((33, .int .i64 _) :: _) rfl ?_
   refine nn ?_
   refine cm_block ?_
   refine cm_loop (σ := (List (Int × Bool)) × Int) (ξ := Unit) (fun s110 u111 => [(10, .map (some b62)), (31, .slice A_p0 n_p0 c_p0), (32, .int .i64 (List.length p0 : Int)), (33, .int .i64 s110.2)]) (fun s110 u111 => [mapE Tryz.prog 3 (Value.int .i64) Value.bool b62 s110.1]) () ?_ ?_ ?_
   ·exact sq
   ·exact sh [0]
   intro s110 u111
   refine sr ?_
   refine la 1 ((34, .bool _) :: _) rfl ?_
   refine nn ?_
   refine cm_seq ?_
   refine cm_cond (by kernel_rfl) rfl (fun h112 => ?_) (fun h112 => ?_)
   ·refine sk ?_
    refine cm_seq ?_
    refine cm_block ?_
    refine sr ?_
    refine lm_ck (fun h113 => ?_)
    refine v_ 35 (fun _ c1 => oI 7 rfl rfl ((hr_p0.old c1).addr h113.1 h113.2) hz_p0.2.2 h113) ?_
    refine v_ 36 (fun _ c1 => oR [.int .i64 ((ix p0 s110.2).ID), .int .i64 ((ix p0 s110.2).Container), .int .i64 ((ix p0 s110.2).Vehicle), .int .i64 ((ix p0 s110.2).At), .int .i64 ((ix p0 s110.2).Mass.Lo), .int .i64 ((ix p0 s110.2).Mass.Hi), .bool ((ix p0 s110.2).Void)] ((hr_p0.old c1).row h113.1 h113.2)) ?_
    refine lm_alloc 12 [.int .i64 0, .int .i64 0, .int .i64 0, .int .i64 0, .int .i64 0, .int .i64 0, .bool false] (v := .agg #[.int .i64 0, .int .i64 0, .int .i64 0, .int .i64 0, .int .i64 0, .int .i64 0, .bool false]) (by kernel_rfl) (by kernel_rfl) rfl ?_
    intro b114
    refine lm_storeA 0 [.int .i64 _, .int .i64 _, .int .i64 _, .int .i64 _, .int .i64 _, .int .i64 _, .bool _] [_, _, _, _, _, _, _] (H' := [blkE _ _ [_, _, _, _, _, _, _], _]) (by kernel_rfl) rfl rfl (by kernel_rfl) rfl rfl (by kernel_rfl) rfl rfl ?_
    refine nn ?_
    refine cm_seq ?_
    refine sr ?_
    refine la 1 ((37, .map (some _)) :: _) rfl ?_
    refine v_ 38 (fun _ _ => oF 0 0 rfl) ?_
    refine v_ 39 (fun _ c1 => oL (c1.cell 0 (u := .int .i64 _) rfl rfl)) ?_
    refine lm_ck (fun h115 => ?_)
    refine v_ 40 (fun _ c1 => op_lookup (κ := Int) (α := Bool) (ek := (Value.int .i64)) (ev := Value.bool) (l := s110.1) (y := ((ix p0 s110.2).ID)) false rfl rfl (Maps.int_keyed Tryz.underlying3) (ek_int .i64) (key_i64 Tryz.underlying3 h115) Tryz.underlying115 rfl (c1.map 1 rfl)) ?_
    refine nn ?_
    refine cm_condB (by kernel_rfl) rfl (fun h116 => ?_) (fun h116 => ?_)
    ·refine sr ?_
     refine la 1 ((6, .int .i64 _) :: _) rfl ?_
     refine nn ?_
     refine cm_ret ?_
     refine xm_thenR ?_
     refine xm_inR ?_
     refine xm_thenR ?_
     refine xm_lret ?_
     refine xm_inR ?_
     refine xm_lret ?_
     exact xm_retT rfl (by kernel_rfl) (show _ = Value.int .i64 _ from rfl) fun w1 c1 => ⟨(), rfl, hsub [] (by kernel_rfl) rfl w1 c1⟩
    ·refine sk ?_
     refine cm_region ?_
     refine la 1 ((41, .map (some _)) :: _) rfl ?_
     refine v_ 42 (fun _ _ => oF 0 0 rfl) ?_
     refine v_ 43 (fun _ c1 => oL (c1.cell 0 (u := .int .i64 _) rfl rfl)) ?_
     refine lm_ck (fun h117 => ?_)
     refine lm_mapUpdate 1 (κ := Int) (α := Bool) (ek := (Value.int .i64)) (ev := Value.bool) (l := s110.1) (y := ((ix p0 s110.2).ID)) (a := true) (by kernel_rfl) rfl rfl rfl (Maps.int_keyed Tryz.underlying3) (ek_int .i64) (key_i64 Tryz.underlying3 h117) Tryz.underlying115 rfl rfl ?_
     refine lm_nil ?_
     refine xm_inN ?_
     refine xm_next ?_
     refine cm_region ?_
     refine lm_ck (fun h118 => ?_)
     refine v_ 44 (fun _ _ => op_add rfl rfl h118) ?_
     refine la 1 ((33, .int .i64 _) :: _) rfl ?_
     refine lm_nil ?_
     exact xm_lnext () sq (sh [1])
   ·refine cm_exit ?_
    refine xm_thenE ?_
    refine xm_lexit ?_
    refine xm_here ?_
    exact xm_lnext () sub_nil (sh [])
  intro s90 u91
  refine sr ?_
  refine la 1 ((6, .int .i64 _) :: _) rfl ?_
  refine nn ?_
  refine cm_ret ?_
  exact xm_retT rfl (by kernel_rfl) (show _ = Value.int .i64 _ from rfl) fun w1 c1 => ⟨(), rfl, hsub [] (by kernel_rfl) rfl w1 c1⟩
/-- cmp.isNaN -/
def m_cmp_isNaN (_N : Nat) (p0 : Int) : Option (Bool) :=
 some ((decide (p0 ≠ p0)))
set_option maxRecDepth 20000 in
theorem m_cmp_isNaN_ok (N : Nat) (w0 : World) (p0 : Int)   (r : Bool) (hr : m_cmp_isNaN N p0 = some r) :
  Ret Tryz.prog 127 [.int .i64 p0] w0 (fun (r : Bool) (_u : Unit) => .bool r) (fun (_r : Bool) (_u : Unit) => []) r := by
 refine calls_v (n := 6) r hr Tryz.func127 ?_
 unfold m_cmp_isNaN
 refine sr ?_
 refine la 1 ((2, .bool false) :: _) rfl ?_
 refine nn ?_
 refine sr ?_
 refine la 4 ((2, .bool _) :: (5, .bool _) :: (4, .int .i64 _) :: (3, .int .i64 _) :: _) rfl ?_
 refine nn ?_
 refine cm_ret ?_
 exact xm_retT rfl (by kernel_rfl) (show _ = Value.bool _ from rfl) fun w1 c1 => ⟨(), rfl, hsub [] (by kernel_rfl) rfl w1 c1⟩
/-- cmp.Compare -/
def m_cmp_Compare (N : Nat) (p0 : Int) (p1 : Int) : Option (Int) :=
 Option.bind (m_cmp_isNaN N p0) fun r5 => Option.bind (m_cmp_isNaN N p1) fun r7 => (if r5 = true then
  (if r7 = true then
   some ((0 : Int))
  else
   some ((-1 : Int)))
 else
  (if r7 = true then
   some ((1 : Int))
  else
   (if p0 < p1 then
    some ((-1 : Int))
   else
    (if p1 < p0 then
     some ((1 : Int))
    else
     some ((0 : Int))))))
set_option maxHeartbeats 2000000 in
set_option maxRecDepth 20000 in
theorem m_cmp_Compare_ok (N : Nat) (w0 : World) (p0 : Int) (p1 : Int)   (r : Int) (hr : m_cmp_Compare N p0 p1 = some r) :
  Ret Tryz.prog 115 [.int .i64 p0, .int .i64 p1] w0 (fun (r : Int) (_u : Unit) => .int .i64 r) (fun (_r : Int) (_u : Unit) => []) r := by
 refine calls_v (n := 20) r hr Tryz.func115 ?_
 unfold m_cmp_Compare
 refine sr ?_
 refine la 1 ((4, .int .i64 _) :: _) rfl ?_
 refine nn ?_
 refine sr ?_
 refine la 1 ((7, .int .i64 _) :: _) rfl ?_
 refine lm_call 8 (V := (fun (r : Bool) (_u : Unit) => .bool r)) (HR := (fun (_r : Bool) (_u : Unit) => [])) (by kernel_rfl) (fun w1 => op_call (by kernel_rfl)) (fun r1 hr1 w1 c1 => m_cmp_isNaN_ok N w1 p0  r1 hr1) ?_
 intro r5 u6
 refine la 1 ((5, .bool _) :: _) rfl ?_
 refine nn ?_
 refine sr ?_
 refine la 1 ((9, .int .i64 _) :: _) rfl ?_
 refine lm_call 10 (V := (fun (r : Bool) (_u : Unit) => .bool r)) (HR := (fun (_r : Bool) (_u : Unit) => [])) (by kernel_rfl) (fun w1 => op_call (by kernel_rfl)) (fun r1 hr1 w1 c1 => m_cmp_isNaN_ok N w1 p1  r1 hr1) ?_
 intro r7 u8
 refine la 1 ((6, .bool _) :: _) rfl ?_
 refine nn ?_
 refine cm_seq ?_
 refine sr ?_
 refine la 1 ((11, .bool _) :: _) rfl ?_
 refine nn ?_
 refine cm_condB (by kernel_rfl) rfl (fun h9 => ?_) (fun h9 => ?_)
 ·refine cm_seq ?_
  refine sr ?_
  refine la 1 ((12, .bool _) :: _) rfl ?_
  refine nn ?_
  refine cm_condB (by kernel_rfl) rfl (fun h10 => ?_) (fun h10 => ?_)
  ·refine sr ?_
   refine la 1 ((4, .int .i64 _) :: _) rfl ?_
   refine nn ?_
   refine cm_ret ?_
   refine xm_thenR ?_
   refine xm_thenR ?_
   exact xm_retT rfl (by kernel_rfl) (show _ = Value.int .i64 _ from rfl) fun w1 c1 => ⟨(), rfl, hsub [] (by kernel_rfl) rfl w1 c1⟩
  ·refine sk ?_
   refine sr ?_
   refine la 1 ((4, .int .i64 _) :: _) rfl ?_
   refine nn ?_
   refine cm_ret ?_
   refine xm_thenR ?_
   exact xm_retT rfl (by kernel_rfl) (show _ = Value.int .i64 _ from rfl) fun w1 c1 => ⟨(), rfl, hsub [] (by kernel_rfl) rfl w1 c1⟩
 ·refine sk ?_
  refine cm_seq ?_
  refine sr ?_
  refine la 1 ((13, .bool _) :: _) rfl ?_
  refine nn ?_
  refine cm_condB (by kernel_rfl) rfl (fun h11 => ?_) (fun h11 => ?_)
  ·refine sr ?_
   refine la 1 ((4, .int .i64 _) :: _) rfl ?_
   refine nn ?_
   refine cm_ret ?_
   refine xm_thenR ?_
   exact xm_retT rfl (by kernel_rfl) (show _ = Value.int .i64 _ from rfl) fun w1 c1 => ⟨(), rfl, hsub [] (by kernel_rfl) rfl w1 c1⟩
  ·refine sk ?_
   refine cm_seq ?_
   refine sr ?_
   refine la 3 ((16, .bool _) :: (15, .int .i64 _) :: (14, .int .i64 _) :: _) rfl ?_
   refine nn ?_
   refine cm_cond (by kernel_rfl) rfl (fun h12 => ?_) (fun h12 => ?_)
   ·refine sr ?_
    refine la 1 ((4, .int .i64 _) :: _) rfl ?_
    refine nn ?_
    refine cm_ret ?_
    refine xm_thenR ?_
    exact xm_retT rfl (by kernel_rfl) (show _ = Value.int .i64 _ from rfl) fun w1 c1 => ⟨(), rfl, hsub [] (by kernel_rfl) rfl w1 c1⟩
   ·refine sk ?_
    refine cm_seq ?_
    refine sr ?_
    refine la 3 ((19, .bool _) :: (18, .int .i64 _) :: (17, .int .i64 _) :: _) rfl ?_
    refine nn ?_
    refine cm_cond (by kernel_rfl) rfl (fun h13 => ?_) (fun h13 => ?_)
    ·refine sr ?_
     refine la 1 ((4, .int .i64 _) :: _) rfl ?_
     refine nn ?_
     refine cm_ret ?_
     refine xm_thenR ?_
     exact xm_retT rfl (by kernel_rfl) (show _ = Value.int .i64 _ from rfl) fun w1 c1 => ⟨(), rfl, hsub [] (by kernel_rfl) rfl w1 c1⟩
    ·refine sk ?_
     refine sr ?_
     refine la 1 ((4, .int .i64 _) :: _) rfl ?_
     refine nn ?_
     refine cm_ret ?_
     exact xm_retT rfl (by kernel_rfl) (show _ = Value.int .i64 _ from rfl) fun w1 c1 => ⟨(), rfl, hsub [] (by kernel_rfl) rfl w1 c1⟩
/-- cmp.Or -/
def m_cmp_Or (N : Nat) (p0 : (List Int)) : Option (Int) :=
 (andThen
  (loopM (fun (s37 : Int) =>
   (if s37 < (List.length p0 : Int) then
    ck ((0 : Int) ≤ s37 ∧ s37 < (List.length p0 : Int)) (
     (if (ix p0 s37) ≠ 0 then
      some (.done (.done ((ix p0 s37))))
     else
      ck (I64 (s37 + (1 : Int))) (
       some (.next (s37 + (1 : Int))))))
   else
    some (.done (.next ())))) N (0 : Int))
 fun (_s23 : Unit) =>
  some ((0 : Int)))
set_option maxRecDepth 20000 in
theorem m_cmp_Or_ok (N : Nat) (w0 : World) (p0 : (List Int)) (A_p0 : Option Addr) (n_p0 c_p0 : Nat) (hr_p0 : RdE w0 1 encI A_p0 p0) (hz_p0 : SW A_p0 n_p0 c_p0 (List.length p0)) (r : Int) (hr : m_cmp_Or N p0 = some r) :
  Ret Tryz.prog 114 [.slice A_p0 n_p0 c_p0] w0 (fun (r : Int) (_u : Unit) => .int .i64 r) (fun (_r : Int) (_u : Unit) => []) r := by
 refine calls_v (n := 18) r hr Tryz.func114 ?_
 unfold m_cmp_Or
 refine sr ?_
 refine la 1 ((2, .int .i64 _) :: _) rfl ?_
 refine nn ?_
 refine sr ?_
 refine la 1 ((3, .int .i64 _) :: _) rfl ?_
 refine nn ?_
 refine cm_join (σ := Unit) (ξ := Unit) (fun s23 u24 => [(3, .int .i64 0)]) (fun s23 u24 => []) ?_ ?_
 ·refine sr ?_
  refine la 1 ((6, .slice _ _ _) :: _) rfl ?_
  refine v_ 7 (fun _ _ => op_lenN rfl (by kernel_rfl) hz_p0.2.2) ?_
  refine la 1 ((8, .int .i64 _) :: _) rfl ?_
  refine nn ?_
  refine cm_block ?_
  refine cm_loop (σ := Int) (ξ := Unit) (fun s37 u38 => [(3, .int .i64 0), (6, .slice A_p0 n_p0 c_p0), (7, .int .i64 (List.length p0 : Int)), (8, .int .i64 s37)]) (fun s37 u38 => []) () ?_ ?_ ?_
  ·exact sq
  ·exact sh []
  intro s37 u38
  refine sr ?_
  refine la 1 ((9, .bool _) :: _) rfl ?_
  refine nn ?_
  refine cm_seq ?_
  refine cm_cond (by kernel_rfl) rfl (fun h39 => ?_) (fun h39 => ?_)
  ·refine sk ?_
   refine cm_seq ?_
   refine cm_block ?_
   refine sr ?_
   refine lm_ck (fun h40 => ?_)
   refine v_ 10 (fun _ c1 => oI 1 rfl rfl ((hr_p0.old c1).addr h40.1 h40.2) hz_p0.2.2 h40) ?_
   refine v_ 11 (fun _ c1 => oL (v := .int .i64 (ix p0 s37)) ((hr_p0.old c1).cell0 h40.1 h40.2 rfl)) ?_
   refine la 1 ((5, .int .i64 _) :: _) rfl ?_
   refine nn ?_
   refine sr ?_
   refine la 3 ((14, .bool _) :: (13, .int .i64 _) :: (12, .int .i64 _) :: _) rfl ?_
   refine nn ?_
   refine cm_cond (by kernel_rfl) rfl (fun h41 => ?_) (fun h41 => ?_)
   ·refine sr ?_
    refine la 2 ((2, .int .i64 _) :: (15, .int .i64 _) :: _) rfl ?_
    refine nn ?_
    refine cm_ret ?_
    refine xm_inR ?_
    refine xm_thenR ?_
    refine xm_lret ?_
    refine xm_inR ?_
    refine xm_lret ?_
    exact xm_retT rfl (by kernel_rfl) (show _ = Value.int .i64 _ from rfl) fun w1 c1 => ⟨(), rfl, hsub [] (by kernel_rfl) rfl w1 c1⟩
   ·refine cm_skip ?_
    refine xm_inN ?_
    refine xm_next ?_
    refine cm_region ?_
    refine lm_ck (fun h42 => ?_)
    refine v_ 16 (fun _ _ => op_add rfl rfl h42) ?_
    refine la 1 ((8, .int .i64 _) :: _) rfl ?_
    refine lm_nil ?_
    exact xm_lnext () sq (sh [])
  ·refine cm_exit ?_
   refine xm_thenE ?_
   refine xm_lexit ?_
   refine xm_here ?_
   exact xm_lnext () sq (sh [])
 intro s23 u24
 refine sr ?_
 refine la 2 ((2, .int .i64 _) :: (17, .int .i64 _) :: _) rfl ?_
 refine nn ?_
 refine cm_ret ?_
 exact xm_retT rfl (by kernel_rfl) (show _ = Value.int .i64 _ from rfl) fun w1 c1 => ⟨(), rfl, hsub [] (by kernel_rfl) rfl w1 c1⟩
/-- emptying.sorted$1 -/
def m_emptying_sorted_1 (N : Nat) (p0 : Int) (p1 : Int) (q0 : (List ApiEmptying)) : Option (Int) :=
 ck ((0 : Int) ≤ p0 ∧ p0 < (List.length q0 : Int)) (
  ck ((0 : Int) ≤ p1 ∧ p1 < (List.length q0 : Int)) (
   Option.bind (m_cmp_Compare N ((ix q0 p0).At) ((ix q0 p1).At)) fun r7 => ck ((0 : Int) ≤ p0 ∧ p0 < (List.length q0 : Int)) (
    ck ((0 : Int) ≤ p1 ∧ p1 < (List.length q0 : Int)) (
     Option.bind (m_cmp_Compare N ((ix q0 p0).ID) ((ix q0 p1).ID)) fun r11 => Option.bind (m_cmp_Or N ([r7, r11])) fun r19 => some (r19)))))
set_option maxRecDepth 20000 in
theorem m_emptying_sorted_1_ok (N : Nat) (w0 : World) (p0 : Int) (p1 : Int) (q0 : (List ApiEmptying)) (b_q0 : Nat) (A_q01 : Option Addr) (n_q01 c_q01 : Nat) (hb_q0 : Blk w0 b_q0 25 [.slice A_q01 n_q01 c_q01]) (hr_q01 : RdE w0 7 encApiEmptying A_q01 q0) (hz_q01 : SW A_q01 n_q01 c_q01 (List.length q0)) (r : Int) (hr : m_emptying_sorted_1 N p0 p1 q0 = some r) :
  Ret Tryz.prog 113 [.int .i64 p0, .int .i64 p1, .pointer (some ⟨b_q0, 0, none⟩)] w0 (fun (r : Int) (_u : Unit) => .int .i64 r) (fun (_r : Int) (_u : Unit) => []) r := by
 refine calls_v (n := 30) r hr Tryz.func113 ?_
 unfold m_emptying_sorted_1
 refine sr ?_
 refine la 1 ((5, .int .i64 _) :: _) rfl ?_
 refine nn ?_
 refine cm_seq ?_
 refine cm_ck (fun h5 => ?_)
 refine cm_ck (fun h6 => ?_)
 refine cm_bind fun r7 h8 => ?_
 refine cm_ck (fun h9 => ?_)
 refine cm_ck (fun h10 => ?_)
 refine cm_bind fun r11 h12 => ?_
 refine cm_bind fun r19 h20 => ?_
 refine cm_held (ξ := Unit) (fun u36 => [(5, .int .i64 r19)]) (fun u36 => []) [] 25 (by kernel_rfl) (by rfl) (hsub [] (by kernel_rfl) (by rfl)) ?_ ?_
 ·intro w38 c39
  refine wh_take 0 6 rfl (by kernel_rfl) (by kernel_rfl) (fun w2 c2 => (op_load rfl (by kernel_rfl) (c2.ocell (hb_q0.at_ 0 (u := .slice _ _ _) rfl)))) (hsub [] (by kernel_rfl) rfl _ c39) ?_
  refine wh_take 1 7 rfl (by kernel_rfl) (by kernel_rfl) (fun w2 c2 => (op_move (v := .int .i64 _) rfl)) (hsub [] (by kernel_rfl) rfl _ c39) ?_
  refine wh_take 2 8 rfl (by kernel_rfl) (by kernel_rfl) (fun w2 c2 => (op_indexA 7 rfl rfl (by kernel_rfl) ((hr_q01.old c2).addr h5.1 h5.2) hz_q01.2.2 h5.1 h5.2)) (hsub [] (by kernel_rfl) rfl _ c39) ?_
  refine wh_take 3 9 rfl (by kernel_rfl) (by kernel_rfl) (fun w2 c2 => (op_field (m := 3) rfl (by kernel_rfl))) (hsub [] (by kernel_rfl) rfl _ c39) ?_
  refine wh_take 4 10 rfl (by kernel_rfl) (by kernel_rfl) (fun w2 c2 => (op_load (v := .int .i64 ((ix q0 p0).At)) rfl (by kernel_rfl) ((hr_q01.old c2).cell (j := 3) h5.1 h5.2 rfl))) (hsub [] (by kernel_rfl) rfl _ c39) ?_
  refine wh_take 5 11 rfl (by kernel_rfl) (by kernel_rfl) (fun w2 c2 => (op_load rfl (by kernel_rfl) (c2.ocell (hb_q0.at_ 0 (u := .slice _ _ _) rfl)))) (hsub [] (by kernel_rfl) rfl _ c39) ?_
  refine wh_take 6 12 rfl (by kernel_rfl) (by kernel_rfl) (fun w2 c2 => (op_move (v := .int .i64 _) rfl)) (hsub [] (by kernel_rfl) rfl _ c39) ?_
  refine wh_take 7 13 rfl (by kernel_rfl) (by kernel_rfl) (fun w2 c2 => (op_indexA 7 rfl rfl (by kernel_rfl) ((hr_q01.old c2).addr h6.1 h6.2) hz_q01.2.2 h6.1 h6.2)) (hsub [] (by kernel_rfl) rfl _ c39) ?_
  refine wh_take 8 14 rfl (by kernel_rfl) (by kernel_rfl) (fun w2 c2 => (op_field (m := 3) rfl (by kernel_rfl))) (hsub [] (by kernel_rfl) rfl _ c39) ?_
  refine wh_take 9 15 rfl (by kernel_rfl) (by kernel_rfl) (fun w2 c2 => (op_load (v := .int .i64 ((ix q0 p1).At)) rfl (by kernel_rfl) ((hr_q01.old c2).cell (j := 3) h6.1 h6.2 rfl))) (hsub [] (by kernel_rfl) rfl _ c39) ?_
  refine wh_take 11 17 rfl (by kernel_rfl) (by kernel_rfl) (fun w2 c2 => (op_load rfl (by kernel_rfl) (c2.ocell (hb_q0.at_ 0 (u := .slice _ _ _) rfl)))) (hsub [] (by kernel_rfl) rfl _ c39) ?_
  refine wh_take 12 18 rfl (by kernel_rfl) (by kernel_rfl) (fun w2 c2 => (op_move (v := .int .i64 _) rfl)) (hsub [] (by kernel_rfl) rfl _ c39) ?_
  refine wh_take 13 19 rfl (by kernel_rfl) (by kernel_rfl) (fun w2 c2 => (op_indexA 7 rfl rfl (by kernel_rfl) ((hr_q01.old c2).addr h9.1 h9.2) hz_q01.2.2 h9.1 h9.2)) (hsub [] (by kernel_rfl) rfl _ c39) ?_
  refine wh_take 14 20 rfl (by kernel_rfl) (by kernel_rfl) (fun w2 c2 => (op_field0 rfl (by kernel_rfl))) (hsub [] (by kernel_rfl) rfl _ c39) ?_
  refine wh_take 15 21 rfl (by kernel_rfl) (by kernel_rfl) (fun w2 c2 => (op_load (v := .int .i64 ((ix q0 p0).ID)) rfl (by kernel_rfl) ((hr_q01.old c2).cell0 h9.1 h9.2 rfl))) (hsub [] (by kernel_rfl) rfl _ c39) ?_
  refine wh_take 16 22 rfl (by kernel_rfl) (by kernel_rfl) (fun w2 c2 => (op_load rfl (by kernel_rfl) (c2.ocell (hb_q0.at_ 0 (u := .slice _ _ _) rfl)))) (hsub [] (by kernel_rfl) rfl _ c39) ?_
  refine wh_take 17 23 rfl (by kernel_rfl) (by kernel_rfl) (fun w2 c2 => (op_move (v := .int .i64 _) rfl)) (hsub [] (by kernel_rfl) rfl _ c39) ?_
  refine wh_take 18 24 rfl (by kernel_rfl) (by kernel_rfl) (fun w2 c2 => (op_indexA 7 rfl rfl (by kernel_rfl) ((hr_q01.old c2).addr h10.1 h10.2) hz_q01.2.2 h10.1 h10.2)) (hsub [] (by kernel_rfl) rfl _ c39) ?_
  refine wh_take 19 25 rfl (by kernel_rfl) (by kernel_rfl) (fun w2 c2 => (op_field0 rfl (by kernel_rfl))) (hsub [] (by kernel_rfl) rfl _ c39) ?_
  refine wh_take 20 26 rfl (by kernel_rfl) (by kernel_rfl) (fun w2 c2 => (op_load (v := .int .i64 ((ix q0 p1).ID)) rfl (by kernel_rfl) ((hr_q01.old c2).cell0 h10.1 h10.2 rfl))) (hsub [] (by kernel_rfl) rfl _ c39) ?_
  refine wh_ready [10] (by kernel_rfl) rfl ⟨?_, trivial⟩
  refine ws_call 16 rfl (by kernel_rfl) (op_call (by kernel_rfl)) (m_cmp_Compare_ok N _ ((ix q0 p0).At) ((ix q0 p1).At)  r7 h8) ?_
  rintro x w41 ⟨u40, rfl, c42⟩
  replace c42 := c39.call c42
  refine ⟨_, rfl, (hsub [] (by kernel_rfl) rfl _ c42), ?_⟩
  refine wh_ready [21] (by kernel_rfl) rfl ⟨?_, trivial⟩
  refine ws_call 27 rfl (by kernel_rfl) (op_call (by kernel_rfl)) (m_cmp_Compare_ok N _ ((ix q0 p0).ID) ((ix q0 p1).ID)  r11 h12) ?_
  rintro x w44 ⟨u43, rfl, c45⟩
  replace c45 := c42.call c45
  refine ⟨_, rfl, (hsub [] (by kernel_rfl) rfl _ c45), ?_⟩
  refine wh_ready [22] (by kernel_rfl) rfl ⟨?_, trivial⟩
  refine ws_sliceN 28 (el := 3) (sz := 1) (bytes := 8) (enc := encI) [r7, r11] rfl (by kernel_rfl) (by kernel_rfl) encI_len rfl ⟨rfl, rfl, ⟨rfl, rfl, trivial⟩⟩ (by kernel_rfl) (by kernel_rfl) c45 ?_
  intro A46 n47 k48 w49 c50
  refine ⟨(hsub [] (by kernel_rfl) rfl _ c50), ?_⟩
  refine wh_strong (Hs w0 [ownE 3 1 encI A46 n47 k48 ([r7, r11])]) (fun w2 c2 => hsub [] (by kernel_rfl) rfl w2 c2) ?_
  refine wh_ready [23] (by kernel_rfl) rfl ⟨?_, trivial⟩
  refine ws_call 29 rfl (by kernel_rfl) (op_call (by kernel_rfl)) (m_cmp_Or_ok N _ ([r7, r11]) A46 n47 k48 (c50.own 0 rfl encI_len) (c50.ownZ 0 rfl) r19 h20) ?_
  rintro x w53 ⟨u52, rfl, c54⟩
  replace c54 := c50.call c54
  refine ⟨_, rfl, (hsub [0] (by kernel_rfl) rfl _ c54), ?_⟩
  refine wh_take 24 5 rfl (by kernel_rfl) (by kernel_rfl) (fun w2 c2 => (op_assign (v := .int .i64 _) rfl)) (hsub [0] (by kernel_rfl) rfl _ c54) ?_
  exact wh_done () (by kernel_rfl) sq (hsub [] (by kernel_rfl) rfl _ c54)
 intro u36
 refine xm_next ?_
 refine cm_ret ?_
 exact xm_retT rfl (by kernel_rfl) (show _ = Value.int .i64 _ from rfl) fun w1 c1 => ⟨(), rfl, hsub [] (by kernel_rfl) rfl w1 c1⟩
/-- emptying.sorted -/
def m_emptying_sorted (N : Nat) (p0 : (List ApiEmptying)) : Option ((List Int)) :=
 ck ((0 : Int) ≤ (List.length p0 : Int) ∧ Int.toNat (List.length p0 : Int) * 8 ≤ 140737488355328) (
  (andThen
   (loopM (fun (s38 : (List Int) × Int) =>
    (if s38.2 < (List.length (List.replicate (Int.toNat (List.length p0 : Int)) (0 : Int)) : Int) then
     ck ((0 : Int) ≤ s38.2 ∧ s38.2 < (List.length s38.1 : Int)) (
      ck (I64 (s38.2 + (1 : Int))) (
       some (.next ((List.set s38.1 (Int.toNat s38.2) s38.2), (s38.2 + (1 : Int))))))
    else
     some (.done (.next s38.1)))) N ((List.replicate (Int.toNat (List.length p0 : Int)) (0 : Int)), (0 : Int)))
  fun (s26 : (List Int)) =>
   ck (sortOk (fun x y => m_emptying_sorted_1 N x y p0) s26 ∧ List.length s26 < 4611686018427387904) (
    some ((sortO (fun x y => m_emptying_sorted_1 N x y p0) s26)))))
set_option maxRecDepth 20000 in
theorem m_emptying_sorted_ok (N : Nat) (w0 : World) (p0 : (List ApiEmptying)) (A_p0 : Option Addr) (n_p0 c_p0 : Nat) (hr_p0 : RdE w0 7 encApiEmptying A_p0 p0) (hz_p0 : SW A_p0 n_p0 c_p0 (List.length p0)) (r : (List Int)) (hr : m_emptying_sorted N p0 = some r) :
  Ret Tryz.prog 96 [.slice A_p0 n_p0 c_p0] w0 (fun (_r : (List Int)) (u : (Option Addr) × Nat × Nat) => .slice u.1 u.2.1 u.2.2) (fun (r : (List Int)) (u : (Option Addr) × Nat × Nat) => [ownE 3 1 encI u.1 u.2.1 u.2.2 r]) r := by
 refine calls_v (n := 22) r hr Tryz.func96 ?_
 unfold m_emptying_sorted
 refine sr ?_
 refine lm_box 1 [.slice _ _ _] (by kernel_rfl) rfl ?_
 intro b5
 refine la 1 ((2, .slice _ _ _) :: _) rfl ?_
 refine nn ?_
 refine sr ?_
 refine v_ 5 (fun _ c1 => oL (c1.cell 0 (u := .slice _ _ _) rfl rfl)) ?_
 refine v_ 6 (fun _ _ => op_lenN rfl (by kernel_rfl) hz_p0.2.2) ?_
 refine lm_ck (fun h6 => ?_)
 refine lm_make 7 (el := 3) (sz := 1) (bytes := 8) (enc := encI) (0 : Int) (zv := .int .i64 0) (by kernel_rfl) (by kernel_rfl) (by kernel_rfl) rfl encI_len rfl rfl h6.1 h6.2 (by kernel_rfl) ?_
 intro A7 n8 k9 h10
 refine la 1 ((3, .slice _ _ _) :: _) rfl ?_
 refine nn ?_
 refine cm_join (σ := (List Int)) (ξ := Unit) (fun s26 u27 => [(1, .pointer (some ⟨b5, 0, none⟩)), (3, .slice A7 n8 k9)]) (fun s26 u27 => [blkE b5 25 [.slice A_p0 n_p0 c_p0], ownE 3 1 encI A7 n8 k9 s26]) ?_ ?_
 ·refine sr ?_
  refine la 1 ((8, .slice _ _ _) :: _) rfl ?_
  refine v_ 9 (fun _ c1 => op_lenN rfl (by kernel_rfl) (c1.ownZ 0 rfl).2.2) ?_
  refine la 1 ((10, .int .i64 _) :: _) rfl ?_
  refine nn ?_
  refine cm_block ?_
  refine cm_loop (σ := (List Int) × Int) (ξ := Unit) (fun s38 u39 => [(1, .pointer (some ⟨b5, 0, none⟩)), (3, .slice A7 n8 k9), (9, .int .i64 (List.length (List.replicate (Int.toNat (List.length p0 : Int)) (0 : Int)) : Int)), (10, .int .i64 s38.2)]) (fun s38 u39 => [blkE b5 25 [.slice A_p0 n_p0 c_p0], ownE 3 1 encI A7 n8 k9 s38.1]) () ?_ ?_ ?_
  ·exact sq
  ·exact sh [1, 0]
  intro s38 u39
  refine sr ?_
  refine la 1 ((11, .bool _) :: _) rfl ?_
  refine nn ?_
  refine cm_seq ?_
  refine cm_cond (by kernel_rfl) rfl (fun h40 => ?_) (fun h40 => ?_)
  ·refine sk ?_
   refine cm_seq ?_
   refine cm_block ?_
   refine sr ?_
   refine la 2 ((4, .int .i64 _) :: (12, .int .i64 _) :: _) rfl ?_
   refine nn ?_
   refine cm_region ?_
   refine la 3 ((15, .int .i64 _) :: (14, .int .i64 _) :: (13, .slice _ _ _) :: _) rfl ?_
   refine lm_ck (fun h41 => ?_)
   refine v_ 16 (fun _ c1 => oI 1 rfl rfl ((c1.own 1 rfl encI_len).addr h41.1 h41.2) (c1.ownZ 1 rfl).2.2 h41) ?_
   refine lm_storeIx 1 s38.2 0 [.int .i64 _] (by kernel_rfl) rfl rfl (by kernel_rfl) rfl rfl rfl encI_len encI_one h41.1 h41.2 (by kernel_rfl) rfl ?_
   refine lm_nil ?_
   refine xm_inN ?_
   refine xm_next ?_
   refine cm_region ?_
   refine lm_ck (fun h42 => ?_)
   refine v_ 17 (fun _ _ => op_add rfl rfl h42) ?_
   refine la 1 ((10, .int .i64 _) :: _) rfl ?_
   refine lm_nil ?_
   exact xm_lnext () sq (sh [0, 1])
  ·refine cm_exit ?_
   refine xm_thenE ?_
   refine xm_lexit ?_
   refine xm_here ?_
   exact xm_lnext () sq (sh [0, 1])
 intro s26 u27
 refine sr ?_
 refine la 1 ((18, .slice _ _ _) :: _) rfl ?_
 refine v_ 19 (fun _ _ => op_makeFuncC [.pointer (some ⟨_, _, _⟩)] rfl) ?_
 refine lm_ck (fun h43 => ?_)
 refine lm_callS 20 (by kernel_rfl) (fun w1 => op_call (by kernel_rfl)) (fun w1 c1 => sort1_own Tryz.sortInt encI (Value.int .i64) (fun _ => rfl) (fun _ => rfl) (fun x y => m_emptying_sorted_1 N x y p0) 113 3 [.pointer (some ⟨b5, 0, none⟩)] (enters_of Tryz.func113 (by kernel_rfl) rfl) 1 rfl h43.1 h43.2 c1 (fun s1 w2 c1 x y r hr => (@m_emptying_sorted_1_ok ⟨false⟩ N w2 x y p0 b5 A_p0 n_p0 c_p0 (c1.blk 0 rfl) (hr_p0.old c1) hz_p0 r hr).mono fun e w3 ⟨_, he, hw⟩ => ⟨he, hw⟩)) ?_
 refine nn ?_
 refine sr ?_
 refine la 2 ((2, .slice _ _ _) :: (21, .slice _ _ _) :: _) rfl ?_
 refine nn ?_
 refine cm_ret ?_
 exact xm_retT rfl (by kernel_rfl) (show _ = Value.slice _ _ _ from rfl) fun w1 c1 => ⟨(A7, n8, k9), rfl, hsub [1] (by kernel_rfl) rfl w1 c1⟩
/-- emptying.Counts -/
def m_emptying_Counts (N : Nat) (p0 : (List ApiEmptying)) (p1 : Int) : Option ((List Int) × Int) :=
 Option.bind (m_emptying_Check N p0 (256 : Int) (16 : Int)) fun r5 => (if r5 ≠ 0 then
  some ((([] : List Int), r5))
 else
  Option.bind (m_emptying_within N p1 (0 : Int) (86400 : Int)) fun r8 => (if (!r8) = true then
   some ((([] : List Int), (1 : Int)))
  else
   (andThen
    (Option.bind (m_emptying_sorted N p0) fun r136 => (loopM (fun (s218 : (List (Int × Int)) × (List Int) × Int) =>
     (if s218.2.2 < (List.length r136 : Int) then
      (andThen
       (ck ((0 : Int) ≤ s218.2.2 ∧ s218.2.2 < (List.length r136 : Int)) (
        ck ((0 : Int) ≤ (ix r136 s218.2.2) ∧ (ix r136 s218.2.2) < (List.length p0 : Int)) (
         ck (I64 ((ix p0 (ix r136 s218.2.2)).Container)) (
          ck (((!((ix p0 (ix r136 s218.2.2)).Void)) && (Option.isSome (mget s218.1 ((ix p0 (ix r136 s218.2.2)).Container)))) = true → I64 (((ix p0 (ix r136 s218.2.2)).At) - (Option.getD (mget s218.1 ((ix p0 (ix r136 s218.2.2)).Container)) (0 : Int)))) (
           (if (((ix p0 (ix r136 s218.2.2)).Void) || ((Option.isSome (mget s218.1 ((ix p0 (ix r136 s218.2.2)).Container))) && (decide ((((ix p0 (ix r136 s218.2.2)).At) - (Option.getD (mget s218.1 ((ix p0 (ix r136 s218.2.2)).Container)) (0 : Int))) ≤ p1)))) = true then
            some (.next (s218.1, s218.2.1))
           else
            ck (I64 ((ix p0 (ix r136 s218.2.2)).Container)) (
             ck ((List.length s218.2.1 + List.length ([(ix r136 s218.2.2)])) * 8 ≤ 140737488355328) (
              some (.next ((mput s218.1 ((ix p0 (ix r136 s218.2.2)).Container) ((ix p0 (ix r136 s218.2.2)).At)), (s218.2.1 ++ ([(ix r136 s218.2.2)]))))))))))))
      fun (s238 : (List (Int × Int)) × (List Int)) =>
       ck (I64 (s218.2.2 + (1 : Int))) (
        some (.next (s238.1, s238.2, (s218.2.2 + (1 : Int))))))
     else
      some (.done (.next s218.2.1)))) N (([] : (List (Int × Int))), ([] : List Int), (0 : Int))))
   fun (s134 : (List Int)) =>
    some ((s134, (0 : Int))))))
set_option maxHeartbeats 2000000 in
set_option maxRecDepth 20000 in
theorem m_emptying_Counts_ok (N : Nat) (w0 : World) (p0 : (List ApiEmptying)) (p1 : Int) (A_p0 : Option Addr) (n_p0 c_p0 : Nat) (hr_p0 : RdE w0 7 encApiEmptying A_p0 p0) (hz_p0 : SW A_p0 n_p0 c_p0 (List.length p0)) (r : (List Int) × Int) (hr : m_emptying_Counts N p0 p1 = some r) :
  Ret Tryz.prog 63 [.slice A_p0 n_p0 c_p0, .int .i64 p1] w0 (fun (r : (List Int) × Int) (u : (Option Addr) × Nat × Nat) => .tuple #[.slice u.1 u.2.1 u.2.2, .int .i64 r.2]) (fun (r : (List Int) × Int) (u : (Option Addr) × Nat × Nat) => [ownE 3 1 encI u.1 u.2.1 u.2.2 r.1]) r := by
 refine calls_v (n := 65) r hr Tryz.func63 ?_
 unfold m_emptying_Counts
 refine sr ?_
 refine la 2 ((5, .int .i64 _) :: (4, .slice _ _ _) :: _) rfl ?_
 refine nn ?_
 refine cm_seq ?_
 refine sr ?_
 refine la 1 ((14, .slice _ _ _) :: _) rfl ?_
 refine lm_call 15 (V := (fun (r : Int) (_u : Unit) => .int .i64 r)) (HR := (fun (_r : Int) (_u : Unit) => [])) (by kernel_rfl) (fun w1 => op_call (by kernel_rfl)) (fun r1 hr1 w1 c1 => m_emptying_Check_ok N w1 p0 (256 : Int) (16 : Int) A_p0 n_p0 c_p0 (hr_p0.old c1) hz_p0 r1 hr1) ?_
 intro r5 u6
 refine la 1 ((6, .int .i64 _) :: _) rfl ?_
 refine nn ?_
 refine sr ?_
 refine la 2 ((17, .bool _) :: (16, .int .i64 _) :: _) rfl ?_
 refine nn ?_
 refine cm_cond (by kernel_rfl) rfl (fun h7 => ?_) (fun h7 => ?_)
 ·refine sr ?_
  refine la 3 ((5, .int .i64 _) :: (4, .slice _ _ _) :: (18, .int .i64 _) :: _) rfl ?_
  refine nn ?_
  refine cm_ret ?_
  refine xm_thenR ?_
  refine xm_nilrow 3 1 encI ?_
  exact xm_retTT rfl (by kernel_rfl) (show _ = Value.slice _ _ _ from rfl) (by kernel_rfl) (show _ = Value.int .i64 _ from rfl) fun w1 c1 => ⟨(none, 0, 0), rfl, hsub [0] (by kernel_rfl) rfl w1 c1⟩
 ·refine sk ?_
  refine cm_seq ?_
  refine sr ?_
  refine la 1 ((19, .int .i64 _) :: _) rfl ?_
  refine lm_call 20 (V := (fun (r : Bool) (_u : Unit) => .bool r)) (HR := (fun (_r : Bool) (_u : Unit) => [])) (by kernel_rfl) (fun w1 => op_call (by kernel_rfl)) (fun r1 hr1 w1 c1 => m_emptying_within_ok N w1 p1 (0 : Int) (86400 : Int)  r1 hr1) ?_
  intro r8 u9
  refine la 1 ((21, .bool _) :: _) rfl ?_
  refine nn ?_
  refine cm_condB (by kernel_rfl) rfl (fun h10 => ?_) (fun h10 => ?_)
  ·refine sr ?_
   refine la 2 ((5, .int .i64 _) :: (4, .slice _ _ _) :: _) rfl ?_
   refine nn ?_
   refine cm_ret ?_
   refine xm_thenR ?_
   refine xm_nilrow 3 1 encI ?_
   exact xm_retTT rfl (by kernel_rfl) (show _ = Value.slice _ _ _ from rfl) (by kernel_rfl) (show _ = Value.int .i64 _ from rfl) fun w1 c1 => ⟨(none, 0, 0), rfl, hsub [0] (by kernel_rfl) rfl w1 c1⟩
  ·refine sk ?_
   refine sr ?_
   refine lm_makeMap (κ := Int) (α := Int) 22 3 (Value.int .i64) (Value.int .i64) (by kernel_rfl) ?_
   intro b11
   refine la 1 ((7, .map (some _)) :: _) rfl ?_
   refine nn ?_
   refine sr ?_
   refine la 1 ((8, .slice _ _ _) :: _) rfl ?_
   refine nn ?_
   refine cm_join (σ := (List Int)) (ξ := (Option Addr) × Nat × Nat) (fun s134 u135 => [(8, .slice u135.1 u135.2.1 u135.2.2)]) (fun s134 u135 => [ownE 3 1 encI u135.1 u135.2.1 u135.2.2 s134]) ?_ ?_
   ·refine sr ?_
    refine la 1 ((23, .slice _ _ _) :: _) rfl ?_
    refine lm_call 24 (V := (fun (_r : (List Int)) (u : (Option Addr) × Nat × Nat) => .slice u.1 u.2.1 u.2.2)) (HR := (fun (r : (List Int)) (u : (Option Addr) × Nat × Nat) => [ownE 3 1 encI u.1 u.2.1 u.2.2 r])) (by kernel_rfl) (fun w1 => op_call (by kernel_rfl)) (fun r1 hr1 w1 c1 => m_emptying_sorted_ok N w1 p0 A_p0 n_p0 c_p0 (hr_p0.old c1) hz_p0 r1 hr1) ?_
    intro r136 u137
    refine v_ 25 (fun _ c1 => op_lenN rfl (by kernel_rfl) (c1.ownZ 0 rfl).2.2) ?_
    refine la 1 ((26, .int .i64 _) :: _) rfl ?_
    refine nn ?_
    refine cm_block ?_
    refine cm_nilrow 3 1 encI ?_
    refine cm_loop (σ := (List (Int × Int)) × (List Int) × Int) (ξ := (Option Addr) × Nat × Nat) (fun s218 u219 => [(0, .slice A_p0 n_p0 c_p0), (1, .int .i64 p1), (7, .map (some b11)), (8, .slice u219.1 u219.2.1 u219.2.2), (24, .slice u137.1 u137.2.1 u137.2.2), (25, .int .i64 (List.length r136 : Int)), (26, .int .i64 s218.2.2)]) (fun s218 u219 => [mapE Tryz.prog 3 (Value.int .i64) (Value.int .i64) b11 s218.1, ownE 3 1 encI u219.1 u219.2.1 u219.2.2 s218.2.1, ownE 3 1 encI u137.1 u137.2.1 u137.2.2 r136]) (none, 0, 0) ?_ ?_ ?_
    ·exact sq
    ·exact sh [2, 0, 1]
    intro s218 u219
    refine sr ?_
    refine la 1 ((27, .bool _) :: _) rfl ?_
    refine nn ?_
    refine cm_seq ?_
    refine cm_cond (by kernel_rfl) rfl (fun h220 => ?_) (fun h220 => ?_)
    ·refine sk ?_
     refine cm_join (σ := (List (Int × Int)) × (List Int)) (ξ := (Option Addr) × Nat × Nat) (fun s238 u239 => [(0, .slice A_p0 n_p0 c_p0), (1, .int .i64 p1), (7, .map (some b11)), (8, .slice u239.1 u239.2.1 u239.2.2), (24, .slice u137.1 u137.2.1 u137.2.2), (25, .int .i64 (List.length r136 : Int)), (26, .int .i64 s218.2.2)]) (fun s238 u239 => [mapE Tryz.prog 3 (Value.int .i64) (Value.int .i64) b11 s238.1, ownE 3 1 encI u239.1 u239.2.1 u239.2.2 s238.2, ownE 3 1 encI u137.1 u137.2.1 u137.2.2 r136]) ?_ ?_
     ·refine cm_block ?_
      refine sr ?_
      refine lm_ck (fun h240 => ?_)
      refine v_ 28 (fun _ c1 => oI 1 rfl rfl ((c1.own 2 rfl encI_len).addr h240.1 h240.2) (c1.ownZ 2 rfl).2.2 h240) ?_
      refine v_ 29 (fun _ c1 => oL (v := .int .i64 (ix r136 s218.2.2)) ((c1.own 2 rfl encI_len).cell0 h240.1 h240.2 rfl)) ?_
      refine la 1 ((10, .int .i64 _) :: _) rfl ?_
      refine nn ?_
      refine sr ?_
      refine la 2 ((31, .int .i64 _) :: (30, .slice _ _ _) :: _) rfl ?_
      refine lm_ck (fun h241 => ?_)
      refine v_ 32 (fun _ c1 => oI 7 rfl rfl ((hr_p0.old c1).addr h241.1 h241.2) hz_p0.2.2 h241) ?_
      refine v_ 33 (fun _ c1 => oR [.int .i64 ((ix p0 (ix r136 s218.2.2)).ID), .int .i64 ((ix p0 (ix r136 s218.2.2)).Container), .int .i64 ((ix p0 (ix r136 s218.2.2)).Vehicle), .int .i64 ((ix p0 (ix r136 s218.2.2)).At), .int .i64 ((ix p0 (ix r136 s218.2.2)).Mass.Lo), .int .i64 ((ix p0 (ix r136 s218.2.2)).Mass.Hi), .bool ((ix p0 (ix r136 s218.2.2)).Void)] ((hr_p0.old c1).row h241.1 h241.2)) ?_
      refine lm_alloc 11 [.int .i64 0, .int .i64 0, .int .i64 0, .int .i64 0, .int .i64 0, .int .i64 0, .bool false] (v := .agg #[.int .i64 0, .int .i64 0, .int .i64 0, .int .i64 0, .int .i64 0, .int .i64 0, .bool false]) (by kernel_rfl) (by kernel_rfl) rfl ?_
      intro b242
      refine lm_storeA 0 [.int .i64 _, .int .i64 _, .int .i64 _, .int .i64 _, .int .i64 _, .int .i64 _, .bool _] [_, _, _, _, _, _, _] (H' := [blkE _ _ [_, _, _, _, _, _, _], _, _, _]) (by kernel_rfl) rfl rfl (by kernel_rfl) rfl rfl (by kernel_rfl) rfl rfl ?_
      refine nn ?_
      refine sr ?_
      refine la 1 ((35, .map (some _)) :: _) rfl ?_
      refine v_ 36 (fun _ _ => oF 1 1 rfl) ?_
      refine v_ 37 (fun _ c1 => oL (c1.cell 0 (u := .int .i64 _) rfl rfl)) ?_
      refine lm_ck (fun h243 => ?_)
      refine v_ 38 (fun _ c1 => op_lookupOk (κ := Int) (α := Int) (ek := (Value.int .i64)) (ev := (Value.int .i64)) (l := s218.1) (y := ((ix p0 (ix r136 s218.2.2)).Container)) (0 : Int) rfl rfl (Maps.int_keyed Tryz.underlying3) (ek_int .i64) (key_i64 Tryz.underlying3 h243) Tryz.underlying127 rfl (c1.map 1 rfl)) ?_
      refine la 5 ((13, .bool _) :: (12, .int .i64 _) :: (40, .bool _) :: (39, .int .i64 _) :: (34, .tuple _) :: _) rfl ?_
      refine nn ?_
      refine cm_seq ?_
      refine cm_seq ?_
      refine cm_ck (fun h244 => ?_)
      refine cm_cutE [(53, .bool (((ix p0 (ix r136 s218.2.2)).Void) || ((Option.isSome (mget s218.1 ((ix p0 (ix r136 s218.2.2)).Container))) && (decide ((((ix p0 (ix r136 s218.2.2)).At) - (Option.getD (mget s218.1 ((ix p0 (ix r136 s218.2.2)).Container)) (0 : Int))) ≤ p1)))))] ?_ ?_
      ·refine q_ 41 (fun _ _ => oF 6 6 rfl) ?_
       refine wq_bool 42 (by kernel_rfl) (fun w1 c1 => (op_load rfl (by kernel_rfl) (c1.cell 0 (u := .bool _) rfl rfl))) (fun h245 => ?_) (fun h245 => ?_)
       ·refine qa 11 ((53, .bool true) :: (52, undef) :: (51, undef) :: (50, undef) :: (49, undef) :: (48, undef) :: (47, undef) :: (46, undef) :: (45, undef) :: (44, undef) :: (43, .bool true) :: _) rfl ?_
        exact leaf_q (sub_out 13 _ rfl (by kernel_rfl) ⟨(congrArg Value.bool (by rw [h245] <;> rfl)), trivial⟩)
       ·refine qa 1 ((43, .bool false) :: _) rfl ?_
        refine wq_bool 44 (by kernel_rfl) (fun w1 c1 => (op_move (v := .bool _) rfl)) (fun h246 => ?_) (fun h246 => ?_)
        ·refine qa 1 ((45, .bool true) :: _) rfl ?_
         refine q_ 46 (fun _ _ => oF 3 3 rfl) ?_
         refine q_ 47 (fun _ c1 => oL (c1.cell 0 (u := .int .i64 _) rfl rfl)) ?_
         refine qa 1 ((48, .int .i64 _) :: _) rfl ?_
         refine q_ 49 (fun _ _ => op_sub rfl rfl (h244 (by rw [h245, h246] <;> rfl))) ?_
         refine qa 4 ((53, .bool _) :: (52, .bool _) :: (51, .bool _) :: (50, .int .i64 _) :: _) rfl ?_
         exact leaf_q (sub_out 13 _ rfl (by kernel_rfl) ⟨(congrArg Value.bool (by rw [h245, h246] <;> rfl)), trivial⟩)
        ·refine qa 9 ((53, .bool false) :: (52, .bool false) :: (51, undef) :: (50, undef) :: (49, undef) :: (48, undef) :: (47, undef) :: (46, undef) :: (45, .bool false) :: _) rfl ?_
         exact leaf_q (sub_out 13 _ rfl (by kernel_rfl) ⟨(congrArg Value.bool (by rw [h245, h246] <;> rfl)), trivial⟩)
      refine xm_next ?_
      refine cm_condB (by kernel_rfl) rfl (fun h247 => ?_) (fun h247 => ?_)
      ·refine cm_exit ?_
       refine xm_thenE ?_
       refine xm_here ?_
       exact xm_lnext (u219.1, u219.2.1, u219.2.2) sq (sh [1, 2, 3])
      ·refine sk ?_
       refine sr ?_
       refine la 1 ((54, .map (some _)) :: _) rfl ?_
       refine v_ 55 (fun _ _ => oF 1 1 rfl) ?_
       refine v_ 56 (fun _ c1 => oL (c1.cell 0 (u := .int .i64 _) rfl rfl)) ?_
       refine v_ 57 (fun _ _ => oF 3 3 rfl) ?_
       refine v_ 58 (fun _ c1 => oL (c1.cell 0 (u := .int .i64 _) rfl rfl)) ?_
       refine lm_ck (fun h248 => ?_)
       refine lm_mapUpdate 1 (κ := Int) (α := Int) (ek := (Value.int .i64)) (ev := (Value.int .i64)) (l := s218.1) (y := ((ix p0 (ix r136 s218.2.2)).Container)) (a := ((ix p0 (ix r136 s218.2.2)).At)) (by kernel_rfl) rfl rfl rfl (Maps.int_keyed Tryz.underlying3) (ek_int .i64) (key_i64 Tryz.underlying3 h248) Tryz.underlying127 rfl rfl ?_
       refine nn ?_
       refine cm_region ?_
       refine la 2 ((60, .int .i64 _) :: (59, .slice _ _ _) :: _) rfl ?_
       refine lm_slice1 61 (el := 3) (sz := 1) (bytes := 8) (enc := encI) (ix r136 s218.2.2) (by kernel_rfl) (by kernel_rfl) encI_len rfl (by kernel_rfl) ?_
       intro A249 n250 k251 h252
       refine lm_ck (fun h253 => ?_)
       refine lm_append 62 3 (el := 3) (sz := 1) (bytes := 8) (enc := encI) (l2 := ([(ix r136 s218.2.2)])) (by kernel_rfl) (by kernel_rfl) encI_len encI_one rfl rfl rfl (fun w1 c1 => (c1.ownZ 0 rfl)) (fun w1 c1 => (c1.own 0 rfl encI_len)) h253 ?_ (by kernel_rfl)
       intro A254 n255 k256
       refine la 1 ((8, .slice _ _ _) :: _) rfl ?_
       refine lm_nil ?_
       refine xm_inN ?_
       exact xm_lnext (A254, n255, k256) sq (sh [2, 3, 4])
     intro s238 u239
     refine cm_region ?_
     refine lm_ck (fun h257 => ?_)
     refine v_ 63 (fun _ _ => op_add rfl rfl h257) ?_
     refine la 1 ((26, .int .i64 _) :: _) rfl ?_
     refine lm_nil ?_
     exact xm_lnext (u239.1, u239.2.1, u239.2.2) sq (sh [0, 1, 2])
    ·refine cm_exit ?_
     refine xm_thenE ?_
     refine xm_lexit ?_
     refine xm_here ?_
     exact xm_lnext (u219.1, u219.2.1, u219.2.2) sq (sh [1])
   intro s134 u135
   refine sr ?_
   refine la 3 ((5, .int .i64 _) :: (4, .slice _ _ _) :: (64, .slice _ _ _) :: _) rfl ?_
   refine nn ?_
   refine cm_ret ?_
   exact xm_retTT rfl (by kernel_rfl) (show _ = Value.slice _ _ _ from rfl) (by kernel_rfl) (show _ = Value.int .i64 _ from rfl) fun w1 c1 => ⟨(u135.1, u135.2.1, u135.2.2), rfl, hsub [0] (by kernel_rfl) rfl w1 c1⟩
/-- emptying.window -/
def m_emptying_window (_N : Nat) (p0 : ApiWindow) : Option (Bool) :=
 some ((((decide (0 ≤ p0.From)) && (decide (p0.From ≤ p0.To))) && (decide (p0.To ≤ 3155760000))))
set_option maxRecDepth 20000 in
theorem m_emptying_window_ok (N : Nat) (w0 : World) (p0 : ApiWindow)   (r : Bool) (hr : m_emptying_window N p0 = some r) :
  Ret Tryz.prog 64 [.agg #[.int .i64 p0.From, .int .i64 p0.To]] w0 (fun (r : Bool) (_u : Unit) => .bool r) (fun (_r : Bool) (_u : Unit) => []) r := by
 refine calls_v (n := 18) r hr Tryz.func64 ?_
 unfold m_emptying_window
 refine sr ?_
 refine lm_box 1 [.int .i64 _, .int .i64 _] (by kernel_rfl) rfl ?_
 intro b5
 refine la 1 ((2, .bool false) :: _) rfl ?_
 refine nn ?_
 refine cm_seq ?_
 refine cm_cutE [(2, .bool (((decide (0 ≤ p0.From)) && (decide (p0.From ≤ p0.To))) && (decide (p0.To ≤ 3155760000))))] ?_ ?_
 ·refine q_ 3 (fun _ _ => oF 0 0 rfl) ?_
  refine q_ 4 (fun _ c1 => oL (c1.cell 0 (u := .int .i64 _) rfl rfl)) ?_
  refine qd 5 (fun _ _ => op_leq rfl rfl) (fun h6 => ?_) (fun h6 => ?_)
  ·refine qa 1 ((6, .bool true) :: _) rfl ?_
   refine q_ 7 (fun _ _ => oF 0 0 rfl) ?_
   refine q_ 8 (fun _ c1 => oL (c1.cell 0 (u := .int .i64 _) rfl rfl)) ?_
   refine q_ 9 (fun _ _ => oF 1 1 rfl) ?_
   refine q_ 10 (fun _ c1 => oL (c1.cell 0 (u := .int .i64 _) rfl rfl)) ?_
   refine qd 11 (fun _ _ => op_leq rfl rfl) (fun h7 => ?_) (fun h7 => ?_)
   ·refine qa 2 ((13, .bool true) :: (12, .bool true) :: _) rfl ?_
    refine q_ 14 (fun _ _ => oF 1 1 rfl) ?_
    refine q_ 15 (fun _ c1 => oL (c1.cell 0 (u := .int .i64 _) rfl rfl)) ?_
    refine qa 3 ((2, .bool _) :: (17, .bool _) :: (16, .bool _) :: _) rfl ?_
    exact leaf_q (sub_out 16 _ rfl (by kernel_rfl) ⟨(congrArg Value.bool (by rw [decide_eq_true h6, decide_eq_true h7] <;> rfl)), trivial⟩)
   ·refine qa 7 ((2, .bool false) :: (17, .bool false) :: (16, undef) :: (15, undef) :: (14, undef) :: (13, .bool false) :: (12, .bool false) :: _) rfl ?_
    exact leaf_q (sub_out 16 _ rfl (by kernel_rfl) ⟨(congrArg Value.bool (by rw [decide_eq_true h6, decide_eq_false h7] <;> rfl)), trivial⟩)
  ·refine qa 13 ((2, .bool false) :: (17, .bool false) :: (16, undef) :: (15, undef) :: (14, undef) :: (13, .bool false) :: (12, .bool false) :: (11, undef) :: (10, undef) :: (9, undef) :: (8, undef) :: (7, undef) :: (6, .bool false) :: _) rfl ?_
   exact leaf_q (sub_out 16 _ rfl (by kernel_rfl) ⟨(congrArg Value.bool (by rw [decide_eq_false h6] <;> rfl)), trivial⟩)
 refine xm_next ?_
 refine cm_ret ?_
 exact xm_retT rfl (by kernel_rfl) (show _ = Value.bool _ from rfl) fun w1 c1 => ⟨(), rfl, hsub [] (by kernel_rfl) rfl w1 c1⟩
/-- household.Owner$1 -/
def m_household_Owner_1 (_N : Nat) (p0 : ApiAssign) (q0 : Int) (q1 : Int) : Option (Bool) :=
 some ((((decide (p0.Container = q0)) && (decide (p0.When.From ≤ q1))) && (decide (q1 < p0.When.To))))
set_option maxRecDepth 20000 in
theorem m_household_Owner_1_ok (N : Nat) (w0 : World) (p0 : ApiAssign) (q0 : Int) (q1 : Int) (b_q0 : Nat) (b_q1 : Nat) (hb_q0 : Blk w0 b_q0 3 [.int .i64 q0]) (hb_q1 : Blk w0 b_q1 3 [.int .i64 q1]) (r : Bool) (hr : m_household_Owner_1 N p0 q0 q1 = some r) :
  Ret Tryz.prog 99 [.agg #[.int .i64 p0.Container, .int .i64 p0.Household, .int .i64 p0.When.From, .int .i64 p0.When.To], .pointer (some ⟨b_q0, 0, none⟩), .pointer (some ⟨b_q1, 0, none⟩)] w0 (fun (r : Bool) (_u : Unit) => .bool r) (fun (_r : Bool) (_u : Unit) => []) r := by
 refine calls_v (n := 23) r hr Tryz.func99 ?_
 unfold m_household_Owner_1
 refine sr ?_
 refine lm_box 3 [.int .i64 _, .int .i64 _, .int .i64 _, .int .i64 _] (by kernel_rfl) rfl ?_
 intro b5
 refine la 1 ((4, .bool false) :: _) rfl ?_
 refine nn ?_
 refine cm_seq ?_
 refine cm_cutE [(4, .bool (((decide (p0.Container = q0)) && (decide (p0.When.From ≤ q1))) && (decide (q1 < p0.When.To))))] ?_ ?_
 ·refine q_ 5 (fun _ _ => oF 0 0 rfl) ?_
  refine q_ 6 (fun _ c1 => oL (c1.cell 0 (u := .int .i64 _) rfl rfl)) ?_
  refine q_ 7 (fun _ c1 => oL (c1.ocell (hb_q0.at_ 0 (u := .int .i64 _) rfl))) ?_
  refine qd 8 (fun _ _ => op_eql rfl rfl) (fun h6 => ?_) (fun h6 => ?_)
  ·refine qa 1 ((9, .bool true) :: _) rfl ?_
   refine q_ 10 (fun _ _ => oF 2 2 rfl) ?_
   refine q_ 11 (fun _ _ => oF 0 2 rfl) ?_
   refine q_ 12 (fun _ c1 => oL (c1.cell 0 (u := .int .i64 _) rfl rfl)) ?_
   refine q_ 13 (fun _ c1 => oL (c1.ocell (hb_q1.at_ 0 (u := .int .i64 _) rfl))) ?_
   refine qd 14 (fun _ _ => op_leq rfl rfl) (fun h7 => ?_) (fun h7 => ?_)
   ·refine qa 2 ((16, .bool true) :: (15, .bool true) :: _) rfl ?_
    refine q_ 17 (fun _ c1 => oL (c1.ocell (hb_q1.at_ 0 (u := .int .i64 _) rfl))) ?_
    refine q_ 18 (fun _ _ => oF 2 2 rfl) ?_
    refine q_ 19 (fun _ _ => oF 1 3 rfl) ?_
    refine q_ 20 (fun _ c1 => oL (c1.cell 0 (u := .int .i64 _) rfl rfl)) ?_
    refine qa 3 ((4, .bool _) :: (22, .bool _) :: (21, .bool _) :: _) rfl ?_
    exact leaf_q (sub_out 19 _ rfl (by kernel_rfl) ⟨(congrArg Value.bool (by rw [decide_eq_true h6, decide_eq_true h7] <;> rfl)), trivial⟩)
   ·refine qa 9 ((4, .bool false) :: (22, .bool false) :: (21, undef) :: (20, undef) :: (19, undef) :: (18, undef) :: (17, undef) :: (16, .bool false) :: (15, .bool false) :: _) rfl ?_
    exact leaf_q (sub_out 19 _ rfl (by kernel_rfl) ⟨(congrArg Value.bool (by rw [decide_eq_true h6, decide_eq_false h7] <;> rfl)), trivial⟩)
  ·refine qa 15 ((4, .bool false) :: (22, .bool false) :: (21, undef) :: (20, undef) :: (19, undef) :: (18, undef) :: (17, undef) :: (16, .bool false) :: (15, .bool false) :: (14, undef) :: (13, undef) :: (12, undef) :: (11, undef) :: (10, undef) :: (9, .bool false) :: _) rfl ?_
   exact leaf_q (sub_out 19 _ rfl (by kernel_rfl) ⟨(congrArg Value.bool (by rw [decide_eq_false h6] <;> rfl)), trivial⟩)
 refine xm_next ?_
 refine cm_ret ?_
 exact xm_retT rfl (by kernel_rfl) (show _ = Value.bool _ from rfl) fun w1 c1 => ⟨(), rfl, hsub [] (by kernel_rfl) rfl w1 c1⟩
/-- household.chosen -/
def m_household_chosen_household_Owner_1 (N : Nat) (p0 : (List ApiAssign)) (p1c0 : Int) (p1c1 : Int) : Option ((List ApiAssign)) :=
 (andThen
  (loopM (fun (s167 : (List ApiAssign) × Int) =>
   (if s167.2 < (List.length p0 : Int) then
    (andThen
     (ck ((0 : Int) ≤ s167.2 ∧ s167.2 < (List.length p0 : Int)) (
      Option.bind (m_household_Owner_1 N (ix p0 s167.2) p1c0 p1c1) fun r187 => (if r187 = true then
       ck ((List.length s167.1 + List.length ([(ix p0 s167.2)])) * 32 ≤ 140737488355328) (
        some (.next (s167.1 ++ ([(ix p0 s167.2)]))))
      else
       some (.next s167.1))))
    fun (s183 : (List ApiAssign)) =>
     ck (I64 (s167.2 + (1 : Int))) (
      some (.next (s183, (s167.2 + (1 : Int))))))
   else
    some (.done (.next s167.1)))) N (([] : List ApiAssign), (0 : Int)))
 fun (s101 : (List ApiAssign)) =>
  some (s101))
set_option maxRecDepth 20000 in
theorem m_household_chosen_household_Owner_1_ok (N : Nat) (w0 : World) (p0 : (List ApiAssign)) (p1c0 : Int) (p1c1 : Int) (A_p0 : Option Addr) (n_p0 c_p0 : Nat) (b_p1c0 : Nat) (b_p1c1 : Nat) (hr_p0 : RdE w0 4 encApiAssign A_p0 p0) (hz_p0 : SW A_p0 n_p0 c_p0 (List.length p0)) (hb_p1c0 : Blk w0 b_p1c0 3 [.int .i64 p1c0]) (hb_p1c1 : Blk w0 b_p1c1 3 [.int .i64 p1c1]) (r : (List ApiAssign)) (hr : m_household_chosen_household_Owner_1 N p0 p1c0 p1c1 = some r) :
  Ret Tryz.prog 98 [.slice A_p0 n_p0 c_p0, .func (.func 99) #[] #[.pointer (some ⟨b_p1c0, 0, none⟩), .pointer (some ⟨b_p1c1, 0, none⟩)]] w0 (fun (_r : (List ApiAssign)) (u : (Option Addr) × Nat × Nat) => .slice u.1 u.2.1 u.2.2) (fun (r : (List ApiAssign)) (u : (Option Addr) × Nat × Nat) => [ownE 107 4 encApiAssign u.1 u.2.1 u.2.2 r]) r := by
 refine calls_v (n := 23) r hr Tryz.func98 ?_
 unfold m_household_chosen_household_Owner_1
 refine sr ?_
 refine la 1 ((4, .slice _ _ _) :: _) rfl ?_
 refine nn ?_
 refine sr ?_
 refine la 1 ((5, .slice _ _ _) :: _) rfl ?_
 refine nn ?_
 refine cm_join (σ := (List ApiAssign)) (ξ := (Option Addr) × Nat × Nat) (fun s101 u102 => [(5, .slice u102.1 u102.2.1 u102.2.2)]) (fun s101 u102 => [ownE 107 4 encApiAssign u102.1 u102.2.1 u102.2.2 s101]) ?_ ?_
 ·refine sr ?_
  refine la 1 ((8, .slice _ _ _) :: _) rfl ?_
  refine v_ 9 (fun _ _ => op_lenN rfl (by kernel_rfl) hz_p0.2.2) ?_
  refine la 1 ((10, .int .i64 _) :: _) rfl ?_
  refine nn ?_
  refine cm_block ?_
  refine cm_nilrow 107 4 encApiAssign ?_
  refine cm_loop (σ := (List ApiAssign) × Int) (ξ := (Option Addr) × Nat × Nat) (fun s167 u168 => [(1, .func (.func 99) #[] #[.pointer (some ⟨b_p1c0, 0, none⟩), .pointer (some ⟨b_p1c1, 0, none⟩)]), (5, .slice u168.1 u168.2.1 u168.2.2), (8, .slice A_p0 n_p0 c_p0), (9, .int .i64 (List.length p0 : Int)), (10, .int .i64 s167.2)]) (fun s167 u168 => [ownE 107 4 encApiAssign u168.1 u168.2.1 u168.2.2 s167.1]) (none, 0, 0) ?_ ?_ ?_
  ·exact sq
  ·exact sh [0]
  intro s167 u168
  refine sr ?_
  refine la 1 ((11, .bool _) :: _) rfl ?_
  refine nn ?_
  refine cm_seq ?_
  refine cm_cond (by kernel_rfl) rfl (fun h169 => ?_) (fun h169 => ?_)
  ·refine sk ?_
   refine cm_join (σ := (List ApiAssign)) (ξ := (Option Addr) × Nat × Nat) (fun s183 u184 => [(1, .func (.func 99) #[] #[.pointer (some ⟨b_p1c0, 0, none⟩), .pointer (some ⟨b_p1c1, 0, none⟩)]), (5, .slice u184.1 u184.2.1 u184.2.2), (8, .slice A_p0 n_p0 c_p0), (9, .int .i64 (List.length p0 : Int)), (10, .int .i64 s167.2)]) (fun s183 u184 => [ownE 107 4 encApiAssign u184.1 u184.2.1 u184.2.2 s183]) ?_ ?_
   ·refine cm_block ?_
    refine sr ?_
    refine lm_ck (fun h185 => ?_)
    refine v_ 12 (fun _ c1 => oI 4 rfl rfl ((hr_p0.old c1).addr h185.1 h185.2) hz_p0.2.2 h185) ?_
    refine v_ 13 (fun _ c1 => oR [.int .i64 ((ix p0 s167.2).Container), .int .i64 ((ix p0 s167.2).Household), .int .i64 ((ix p0 s167.2).When.From), .int .i64 ((ix p0 s167.2).When.To)] ((hr_p0.old c1).row h185.1 h185.2)) ?_
    refine lm_alloc 7 [.int .i64 0, .int .i64 0, .int .i64 0, .int .i64 0] (v := .agg #[.int .i64 0, .int .i64 0, .int .i64 0, .int .i64 0]) (by kernel_rfl) (by kernel_rfl) rfl ?_
    intro b186
    refine lm_storeA 0 [.int .i64 _, .int .i64 _, .int .i64 _, .int .i64 _] [_, _, _, _] (H' := [blkE _ _ [_, _, _, _], _]) (by kernel_rfl) rfl rfl (by kernel_rfl) rfl rfl (by kernel_rfl) rfl rfl ?_
    refine nn ?_
    refine sr ?_
    refine la 1 ((14, .func _ _ _) :: _) rfl ?_
    refine v_ 15 (fun _ c1 => oR [.int .i64 _, .int .i64 _, .int .i64 _, .int .i64 _] (c1.cells 0 rfl rfl)) ?_
    refine lm_call 16 (V := (fun (r : Bool) (_u : Unit) => .bool r)) (HR := (fun (_r : Bool) (_u : Unit) => [])) (by kernel_rfl) (fun w1 => op_callv rfl (by kernel_rfl)) (fun r1 hr1 w1 c1 => m_household_Owner_1_ok N w1 (ix p0 s167.2) p1c0 p1c1 b_p1c0 b_p1c1 (c1.oblk hb_p1c0) (c1.oblk hb_p1c1) r1 hr1) ?_
    intro r187 u188
    refine nn ?_
    refine cm_condB (by kernel_rfl) rfl (fun h189 => ?_) (fun h189 => ?_)
    ·refine cm_region ?_
     refine la 1 ((17, .slice _ _ _) :: _) rfl ?_
     refine v_ 18 (fun _ c1 => oR [.int .i64 _, .int .i64 _, .int .i64 _, .int .i64 _] (c1.cells 0 rfl rfl)) ?_
     refine lm_slice1 19 (el := 107) (sz := 4) (bytes := 32) (enc := encApiAssign) (ix p0 s167.2) (by kernel_rfl) (by kernel_rfl) encApiAssign_len rfl (by kernel_rfl) ?_
     intro A190 n191 k192 h193
     refine lm_ck (fun h194 => ?_)
     refine lm_append 20 2 (el := 107) (sz := 4) (bytes := 32) (enc := encApiAssign) (l2 := ([(ix p0 s167.2)])) (by kernel_rfl) (by kernel_rfl) encApiAssign_len encApiAssign_one rfl rfl rfl (fun w1 c1 => (c1.ownZ 0 rfl)) (fun w1 c1 => (c1.own 0 rfl encApiAssign_len)) h194 ?_ (by kernel_rfl)
     intro A195 n196 k197
     refine la 1 ((5, .slice _ _ _) :: _) rfl ?_
     refine lm_nil ?_
     refine xm_inN ?_
     exact xm_lnext (A195, n196, k197) sq (sh [2])
    ·refine cm_skip ?_
     refine xm_inN ?_
     exact xm_lnext (u168.1, u168.2.1, u168.2.2) sq (sh [1])
   intro s183 u184
   refine cm_region ?_
   refine lm_ck (fun h198 => ?_)
   refine v_ 21 (fun _ _ => op_add rfl rfl h198) ?_
   refine la 1 ((10, .int .i64 _) :: _) rfl ?_
   refine lm_nil ?_
   exact xm_lnext (u184.1, u184.2.1, u184.2.2) sq (sh [0])
  ·refine cm_exit ?_
   refine xm_thenE ?_
   refine xm_lexit ?_
   refine xm_here ?_
   exact xm_lnext (u168.1, u168.2.1, u168.2.2) sq (sh [0])
 intro s101 u102
 refine sr ?_
 refine la 2 ((4, .slice _ _ _) :: (22, .slice _ _ _) :: _) rfl ?_
 refine nn ?_
 refine cm_ret ?_
 exact xm_retT rfl (by kernel_rfl) (show _ = Value.slice _ _ _ from rfl) fun w1 c1 => ⟨(u102.1, u102.2.1, u102.2.2), rfl, hsub [0] (by kernel_rfl) rfl w1 c1⟩
/-- household.Owner -/
def m_household_Owner (N : Nat) (p0 : (List ApiAssign)) (p1 : Int) (p2 : Int) : Option (Int × Bool) :=
 Option.bind (m_household_chosen_household_Owner_1 N p0 p1 p2) fun r7 => (if (List.length r7 : Int) = 0 then
  some (((0 : Int), false))
 else
  ck ((0 : Int) ≤ 0 ∧ 0 < (List.length r7 : Int)) (
   some (((ix r7 0).Household, true))))
set_option maxRecDepth 20000 in
theorem m_household_Owner_ok (N : Nat) (w0 : World) (p0 : (List ApiAssign)) (p1 : Int) (p2 : Int) (A_p0 : Option Addr) (n_p0 c_p0 : Nat) (hr_p0 : RdE w0 4 encApiAssign A_p0 p0) (hz_p0 : SW A_p0 n_p0 c_p0 (List.length p0)) (r : Int × Bool) (hr : m_household_Owner N p0 p1 p2 = some r) :
  Ret Tryz.prog 67 [.slice A_p0 n_p0 c_p0, .int .i64 p1, .int .i64 p2] w0 (fun (r : Int × Bool) (_u : Unit) => .tuple #[.int .i64 r.1, .bool r.2]) (fun (_r : Int × Bool) (_u : Unit) => []) r := by
 refine calls_v (n := 19) r hr Tryz.func67 ?_
 unfold m_household_Owner
 refine sr ?_
 refine lm_box 4 [.int .i64 _] (by kernel_rfl) rfl ?_
 intro b5
 refine lm_box 5 [.int .i64 _] (by kernel_rfl) rfl ?_
 intro b6
 refine la 2 ((7, .bool false) :: (6, .int .i64 _) :: _) rfl ?_
 refine nn ?_
 refine sr ?_
 refine la 1 ((9, .slice _ _ _) :: _) rfl ?_
 refine v_ 10 (fun _ _ => op_makeFuncC [.pointer (some ⟨_, _, _⟩), .pointer (some ⟨_, _, _⟩)] rfl) ?_
 refine lm_call 11 (V := (fun (_r : (List ApiAssign)) (u : (Option Addr) × Nat × Nat) => .slice u.1 u.2.1 u.2.2)) (HR := (fun (r : (List ApiAssign)) (u : (Option Addr) × Nat × Nat) => [ownE 107 4 encApiAssign u.1 u.2.1 u.2.2 r])) (by kernel_rfl) (fun w1 => op_call (by kernel_rfl)) (fun r1 hr1 w1 c1 => m_household_chosen_household_Owner_1_ok N w1 p0 p1 p2 A_p0 n_p0 c_p0 b5 b6 (hr_p0.old c1) hz_p0 (c1.blk 1 rfl) (c1.blk 0 rfl) r1 hr1) ?_
 intro r7 u8
 refine la 1 ((8, .slice _ _ _) :: _) rfl ?_
 refine nn ?_
 refine cm_seq ?_
 refine sr ?_
 refine la 1 ((12, .slice _ _ _) :: _) rfl ?_
 refine v_ 13 (fun _ c1 => op_lenN rfl (by kernel_rfl) (c1.ownZ 0 rfl).2.2) ?_
 refine la 1 ((14, .bool _) :: _) rfl ?_
 refine nn ?_
 refine cm_cond (by kernel_rfl) rfl (fun h9 => ?_) (fun h9 => ?_)
 ·refine sr ?_
  refine la 2 ((7, .bool false) :: (6, .int .i64 _) :: _) rfl ?_
  refine nn ?_
  refine cm_ret ?_
  refine xm_thenR ?_
  exact xm_retTT rfl (by kernel_rfl) (show _ = Value.int .i64 _ from rfl) (by kernel_rfl) (show _ = Value.bool false from rfl) fun w1 c1 => ⟨(), rfl, hsub [] (by kernel_rfl) rfl w1 c1⟩
 ·refine sk ?_
  refine sr ?_
  refine la 1 ((15, .slice _ _ _) :: _) rfl ?_
  refine lm_ck (fun h10 => ?_)
  refine v_ 16 (fun _ c1 => oI 4 rfl rfl ((c1.own 0 rfl encApiAssign_len).addr h10.1 h10.2) (c1.ownZ 0 rfl).2.2 h10) ?_
  refine v_ 17 (fun _ _ => op_field (m := 1) rfl (by kernel_rfl)) ?_
  refine v_ 18 (fun _ c1 => oL (v := .int .i64 ((ix r7 0).Household)) ((c1.own 0 rfl encApiAssign_len).cell (j := 1) h10.1 h10.2 rfl)) ?_
  refine la 2 ((7, .bool true) :: (6, .int .i64 _) :: _) rfl ?_
  refine nn ?_
  refine cm_ret ?_
  exact xm_retTT rfl (by kernel_rfl) (show _ = Value.int .i64 _ from rfl) (by kernel_rfl) (show _ = Value.bool true from rfl) fun w1 c1 => ⟨(), rfl, hsub [] (by kernel_rfl) rfl w1 c1⟩
/-- emptying.in -/
def m_emptying_in (_N : Nat) (p0 : ApiWindow) (p1 : Int) : Option (Bool) :=
 some (((decide (p0.From ≤ p1)) && (decide (p1 < p0.To))))
set_option maxRecDepth 20000 in
theorem m_emptying_in_ok (N : Nat) (w0 : World) (p0 : ApiWindow) (p1 : Int)   (r : Bool) (hr : m_emptying_in N p0 p1 = some r) :
  Ret Tryz.prog 68 [.agg #[.int .i64 p0.From, .int .i64 p0.To], .int .i64 p1] w0 (fun (r : Bool) (_u : Unit) => .bool r) (fun (_r : Bool) (_u : Unit) => []) r := by
 refine calls_v (n := 15) r hr Tryz.func68 ?_
 unfold m_emptying_in
 refine sr ?_
 refine lm_box 2 [.int .i64 _, .int .i64 _] (by kernel_rfl) rfl ?_
 intro b5
 refine la 1 ((4, .bool false) :: _) rfl ?_
 refine nn ?_
 refine cm_seq ?_
 refine cm_cutE [(4, .bool ((decide (p0.From ≤ p1)) && (decide (p1 < p0.To))))] ?_ ?_
 ·refine q_ 5 (fun _ _ => oF 0 0 rfl) ?_
  refine q_ 6 (fun _ c1 => oL (c1.cell 0 (u := .int .i64 _) rfl rfl)) ?_
  refine qa 1 ((7, .int .i64 _) :: _) rfl ?_
  refine qd 8 (fun _ _ => op_leq rfl rfl) (fun h6 => ?_) (fun h6 => ?_)
  ·refine qa 2 ((10, .int .i64 _) :: (9, .bool true) :: _) rfl ?_
   refine q_ 11 (fun _ _ => oF 1 1 rfl) ?_
   refine q_ 12 (fun _ c1 => oL (c1.cell 0 (u := .int .i64 _) rfl rfl)) ?_
   refine qa 3 ((4, .bool _) :: (14, .bool _) :: (13, .bool _) :: _) rfl ?_
   exact leaf_q (sub_out 11 _ rfl (by kernel_rfl) ⟨(congrArg Value.bool (by rw [decide_eq_true h6] <;> rfl)), trivial⟩)
  ·refine qa 7 ((4, .bool false) :: (14, .bool false) :: (13, undef) :: (12, undef) :: (11, undef) :: (10, undef) :: (9, .bool false) :: _) rfl ?_
   exact leaf_q (sub_out 11 _ rfl (by kernel_rfl) ⟨(congrArg Value.bool (by rw [decide_eq_false h6] <;> rfl)), trivial⟩)
 refine xm_next ?_
 refine cm_ret ?_
 exact xm_retT rfl (by kernel_rfl) (show _ = Value.bool _ from rfl) fun w1 c1 => ⟨(), rfl, hsub [] (by kernel_rfl) rfl w1 c1⟩
/-- emptying.Of$1 -/
def m_emptying_Of_1 (N : Nat) (p0 : Int) (q0 : (List ApiAssign)) (q1 : (List ApiEmptying)) (q2 : ApiWindow) (q3 : Int) : Option (Bool) :=
 ck ((0 : Int) ≤ p0 ∧ p0 < (List.length q1 : Int)) (
  ck ((0 : Int) ≤ p0 ∧ p0 < (List.length q1 : Int)) (
   Option.bind (m_household_Owner N q0 ((ix q1 p0).Container) ((ix q1 p0).At)) fun r7 => ck ((0 : Int) ≤ p0 ∧ p0 < (List.length q1 : Int)) (
    Option.bind (m_emptying_in N q2 ((ix q1 p0).At)) fun r10 => some ((((!r10) || (!r7.2)) || (decide (r7.1 ≠ q3)))))))
set_option maxRecDepth 20000 in
theorem m_emptying_Of_1_ok (N : Nat) (w0 : World) (p0 : Int) (q0 : (List ApiAssign)) (q1 : (List ApiEmptying)) (q2 : ApiWindow) (q3 : Int) (b_q0 : Nat) (A_q01 : Option Addr) (n_q01 c_q01 : Nat) (b_q1 : Nat) (A_q11 : Option Addr) (n_q11 c_q11 : Nat) (b_q2 : Nat) (b_q3 : Nat) (hb_q0 : Blk w0 b_q0 24 [.slice A_q01 n_q01 c_q01]) (hr_q01 : RdE w0 4 encApiAssign A_q01 q0) (hz_q01 : SW A_q01 n_q01 c_q01 (List.length q0)) (hb_q1 : Blk w0 b_q1 25 [.slice A_q11 n_q11 c_q11]) (hr_q11 : RdE w0 7 encApiEmptying A_q11 q1) (hz_q11 : SW A_q11 n_q11 c_q11 (List.length q1)) (hb_q2 : Blk w0 b_q2 34 [.int .i64 q2.From, .int .i64 q2.To]) (hb_q3 : Blk w0 b_q3 3 [.int .i64 q3]) (r : Bool) (hr : m_emptying_Of_1 N p0 q0 q1 q2 q3 = some r) :
  Ret Tryz.prog 66 [.int .i64 p0, .pointer (some ⟨b_q0, 0, none⟩), .pointer (some ⟨b_q1, 0, none⟩), .pointer (some ⟨b_q2, 0, none⟩), .pointer (some ⟨b_q3, 0, none⟩)] w0 (fun (r : Bool) (_u : Unit) => .bool r) (fun (_r : Bool) (_u : Unit) => []) r := by
 refine calls_v (n := 41) r hr Tryz.func66 ?_
 unfold m_emptying_Of_1
 refine sr ?_
 refine la 1 ((6, .bool false) :: _) rfl ?_
 refine nn ?_
 refine cm_seq ?_
 refine cm_ck (fun h5 => ?_)
 refine cm_ck (fun h6 => ?_)
 refine cm_bind fun r7 h8 => ?_
 refine cm_drawn [(7, .int .i64 r7.1), (8, .bool r7.2)] (by kernel_rfl) (by kernel_rfl) ?_ ?_
 ·refine q_ 10 (fun _ c1 => oL (c1.ocell (hb_q0.at_ 0 (u := .slice _ _ _) rfl))) ?_
  refine q_ 11 (fun _ c1 => oL (c1.ocell (hb_q1.at_ 0 (u := .slice _ _ _) rfl))) ?_
  refine qa 1 ((12, .int .i64 _) :: _) rfl ?_
  refine q_ 13 (fun _ c1 => oI 7 rfl rfl ((hr_q11.old c1).addr h5.1 h5.2) hz_q11.2.2 h5) ?_
  refine q_ 14 (fun _ _ => op_field (m := 1) rfl (by kernel_rfl)) ?_
  refine q_ 15 (fun _ c1 => oL (v := .int .i64 ((ix q1 p0).Container)) ((hr_q11.old c1).cell (j := 1) h5.1 h5.2 rfl)) ?_
  refine q_ 16 (fun _ c1 => oL (c1.ocell (hb_q1.at_ 0 (u := .slice _ _ _) rfl))) ?_
  refine qa 1 ((17, .int .i64 _) :: _) rfl ?_
  refine q_ 18 (fun _ c1 => oI 7 rfl rfl ((hr_q11.old c1).addr h6.1 h6.2) hz_q11.2.2 h6) ?_
  refine q_ 19 (fun _ _ => op_field (m := 3) rfl (by kernel_rfl)) ?_
  refine q_ 20 (fun _ c1 => oL (v := .int .i64 ((ix q1 p0).At)) ((hr_q11.old c1).cell (j := 3) h6.1 h6.2 rfl)) ?_
  refine wq_call 21 (by kernel_rfl) (fun w1 c1 => op_call (by kernel_rfl)) (fun w1 c1 => (m_household_Owner_ok N w1 q0 ((ix q1 p0).Container) ((ix q1 p0).At) A_q01 n_q01 c_q01 (hr_q01.old c1) hz_q01 r7 h8).mono (fun _ _ ⟨_, hx, hu⟩ => ⟨hx, c1.call hu⟩)) ?_
  refine qa 5 ((8, .bool _) :: (7, .int .i64 _) :: (23, .bool _) :: (22, .int .i64 _) :: (9, .tuple _) :: _) rfl ?_
  exact lq 17
 refine xm_next ?_
 refine cm_seq ?_
 refine cm_ck (fun h9 => ?_)
 refine cm_bind fun r10 h11 => ?_
 refine cm_drawn [(6, .bool (((!r10) || (!r7.2)) || (decide (r7.1 ≠ q3))))] (by kernel_rfl) (by kernel_rfl) ?_ ?_
 ·refine q_ 24 (fun _ c1 => oR [.int .i64 _, .int .i64 _] (c1.ocells hb_q2 rfl)) ?_
  refine q_ 25 (fun _ c1 => oL (c1.ocell (hb_q1.at_ 0 (u := .slice _ _ _) rfl))) ?_
  refine qa 1 ((26, .int .i64 _) :: _) rfl ?_
  refine q_ 27 (fun _ c1 => oI 7 rfl rfl ((hr_q11.old c1).addr h9.1 h9.2) hz_q11.2.2 h9) ?_
  refine q_ 28 (fun _ _ => op_field (m := 3) rfl (by kernel_rfl)) ?_
  refine q_ 29 (fun _ c1 => oL (v := .int .i64 ((ix q1 p0).At)) ((hr_q11.old c1).cell (j := 3) h9.1 h9.2 rfl)) ?_
  refine wq_callb 30 (by kernel_rfl) (fun w1 c1 => op_call (by kernel_rfl)) (fun w1 c1 => (m_emptying_in_ok N w1 q2 ((ix q1 p0).At)  r10 h11).mono (fun _ _ ⟨_, hx, hu⟩ => ⟨hx, c1.call hu⟩)) (fun h12 => ?_) (fun h12 => ?_)
  ·refine qa 2 ((32, .bool false) :: (31, .bool false) :: _) rfl ?_
   refine wq_bool 33 (by kernel_rfl) (fun w1 c1 => (op_move (v := .bool _) rfl)) (fun h13 => ?_) (fun h13 => ?_)
   ·refine qa 4 ((37, .int .i64 _) :: (36, .bool false) :: (35, .bool false) :: (34, .bool false) :: _) rfl ?_
    refine q_ 38 (fun _ c1 => oL (c1.ocell (hb_q3.at_ 0 (u := .int .i64 _) rfl))) ?_
    refine qa 3 ((6, .bool _) :: (40, .bool _) :: (39, .bool _) :: _) rfl ?_
    exact leaf_q (sub_out 18 _ rfl (by kernel_rfl) ⟨(congrArg Value.bool (by rw [h12, h13] <;> rfl)), trivial⟩)
   ·refine qa 8 ((6, .bool true) :: (40, .bool true) :: (39, undef) :: (38, undef) :: (37, undef) :: (36, .bool true) :: (35, .bool true) :: (34, .bool true) :: _) rfl ?_
    exact leaf_q (sub_out 18 _ rfl (by kernel_rfl) ⟨(congrArg Value.bool (by rw [h12, h13] <;> rfl)), trivial⟩)
  ·refine qa 11 ((6, .bool true) :: (40, .bool true) :: (39, undef) :: (38, undef) :: (37, undef) :: (36, .bool true) :: (35, .bool true) :: (34, undef) :: (33, undef) :: (32, .bool true) :: (31, .bool true) :: _) rfl ?_
   exact leaf_q (sub_out 18 _ rfl (by kernel_rfl) ⟨(congrArg Value.bool (by rw [h12] <;> rfl)), trivial⟩)
 refine xm_next ?_
 refine cm_ret ?_
 exact xm_retT rfl (by kernel_rfl) (show _ = Value.bool _ from rfl) fun w1 c1 => ⟨(), rfl, hsub [] (by kernel_rfl) rfl w1 c1⟩
/-- slices.IndexFunc -/
def m_slices_IndexFunc_emptying_Of_1 (N : Nat) (p0 : (List Int)) (p1c0 : (List ApiAssign)) (p1c1 : (List ApiEmptying)) (p1c2 : ApiWindow) (p1c3 : Int) : Option (Int) :=
 (andThen
  (loopM (fun (s47 : Int) =>
   (if s47 < (List.length p0 : Int) then
    ck ((0 : Int) ≤ s47 ∧ s47 < (List.length p0 : Int)) (
     Option.bind (m_emptying_Of_1 N (ix p0 s47) p1c0 p1c1 p1c2 p1c3) fun r51 => (if r51 = true then
      some (.done (.done (s47)))
     else
      ck (I64 (s47 + (1 : Int))) (
       some (.next (s47 + (1 : Int))))))
   else
    some (.done (.next ())))) N (0 : Int))
 fun (_s29 : Unit) =>
  some ((-1 : Int)))
set_option maxRecDepth 20000 in
theorem m_slices_IndexFunc_emptying_Of_1_ok (N : Nat) (w0 : World) (p0 : (List Int)) (p1c0 : (List ApiAssign)) (p1c1 : (List ApiEmptying)) (p1c2 : ApiWindow) (p1c3 : Int) (A_p0 : Option Addr) (n_p0 c_p0 : Nat) (b_p1c0 : Nat) (A_p1c01 : Option Addr) (n_p1c01 c_p1c01 : Nat) (b_p1c1 : Nat) (A_p1c11 : Option Addr) (n_p1c11 c_p1c11 : Nat) (b_p1c2 : Nat) (b_p1c3 : Nat) (hr_p0 : RdE w0 1 encI A_p0 p0) (hz_p0 : SW A_p0 n_p0 c_p0 (List.length p0)) (hb_p1c0 : Blk w0 b_p1c0 24 [.slice A_p1c01 n_p1c01 c_p1c01]) (hr_p1c01 : RdE w0 4 encApiAssign A_p1c01 p1c0) (hz_p1c01 : SW A_p1c01 n_p1c01 c_p1c01 (List.length p1c0)) (hb_p1c1 : Blk w0 b_p1c1 25 [.slice A_p1c11 n_p1c11 c_p1c11]) (hr_p1c11 : RdE w0 7 encApiEmptying A_p1c11 p1c1) (hz_p1c11 : SW A_p1c11 n_p1c11 c_p1c11 (List.length p1c1)) (hb_p1c2 : Blk w0 b_p1c2 34 [.int .i64 p1c2.From, .int .i64 p1c2.To]) (hb_p1c3 : Blk w0 b_p1c3 3 [.int .i64 p1c3]) (r : Int) (hr : m_slices_IndexFunc_emptying_Of_1 N p0 p1c0 p1c1 p1c2 p1c3 = some r) :
  Ret Tryz.prog 97 [.slice A_p0 n_p0 c_p0, .func (.func 66) #[] #[.pointer (some ⟨b_p1c0, 0, none⟩), .pointer (some ⟨b_p1c1, 0, none⟩), .pointer (some ⟨b_p1c2, 0, none⟩), .pointer (some ⟨b_p1c3, 0, none⟩)]] w0 (fun (r : Int) (_u : Unit) => .int .i64 r) (fun (_r : Int) (_u : Unit) => []) r := by
 refine calls_v (n := 19) r hr Tryz.func97 ?_
 unfold m_slices_IndexFunc_emptying_Of_1
 refine sr ?_
 refine la 1 ((4, .int .i64 _) :: _) rfl ?_
 refine nn ?_
 refine cm_join (σ := Unit) (ξ := Unit) (fun s29 u30 => []) (fun s29 u30 => []) ?_ ?_
 ·refine sr ?_
  refine la 1 ((6, .slice _ _ _) :: _) rfl ?_
  refine v_ 7 (fun _ _ => op_lenN rfl (by kernel_rfl) hz_p0.2.2) ?_
  refine la 1 ((8, .int .i64 _) :: _) rfl ?_
  refine nn ?_
  refine cm_block ?_
  refine cm_loop (σ := Int) (ξ := Unit) (fun s47 u48 => [(0, .slice A_p0 n_p0 c_p0), (1, .func (.func 66) #[] #[.pointer (some ⟨b_p1c0, 0, none⟩), .pointer (some ⟨b_p1c1, 0, none⟩), .pointer (some ⟨b_p1c2, 0, none⟩), .pointer (some ⟨b_p1c3, 0, none⟩)]), (7, .int .i64 (List.length p0 : Int)), (8, .int .i64 s47)]) (fun s47 u48 => []) () ?_ ?_ ?_
  ·exact sq
  ·exact sh []
  intro s47 u48
  refine sr ?_
  refine la 1 ((9, .bool _) :: _) rfl ?_
  refine nn ?_
  refine cm_seq ?_
  refine cm_cond (by kernel_rfl) rfl (fun h49 => ?_) (fun h49 => ?_)
  ·refine sk ?_
   refine cm_seq ?_
   refine cm_block ?_
   refine sr ?_
   refine la 2 ((5, .int .i64 _) :: (10, .int .i64 _) :: _) rfl ?_
   refine nn ?_
   refine sr ?_
   refine la 3 ((13, .int .i64 _) :: (12, .slice _ _ _) :: (11, .func _ _ _) :: _) rfl ?_
   refine lm_ck (fun h50 => ?_)
   refine v_ 14 (fun _ c1 => oI 1 rfl rfl ((hr_p0.old c1).addr h50.1 h50.2) hz_p0.2.2 h50) ?_
   refine v_ 15 (fun _ c1 => oL (v := .int .i64 (ix p0 s47)) ((hr_p0.old c1).cell0 h50.1 h50.2 rfl)) ?_
   refine lm_call 16 (V := (fun (r : Bool) (_u : Unit) => .bool r)) (HR := (fun (_r : Bool) (_u : Unit) => [])) (by kernel_rfl) (fun w1 => op_callv rfl (by kernel_rfl)) (fun r1 hr1 w1 c1 => m_emptying_Of_1_ok N w1 (ix p0 s47) p1c0 p1c1 p1c2 p1c3 b_p1c0 A_p1c01 n_p1c01 c_p1c01 b_p1c1 A_p1c11 n_p1c11 c_p1c11 b_p1c2 b_p1c3 (c1.oblk hb_p1c0) (hr_p1c01.old c1) hz_p1c01 (c1.oblk hb_p1c1) (hr_p1c11.old c1) hz_p1c11 (c1.oblk hb_p1c2) (c1.oblk hb_p1c3) r1 hr1) ?_
   intro r51 u52
   refine nn ?_
   refine cm_condB (by kernel_rfl) rfl (fun h53 => ?_) (fun h53 => ?_)
   ·refine sr ?_
    refine la 2 ((4, .int .i64 _) :: (17, .int .i64 _) :: _) rfl ?_
    refine nn ?_
    refine cm_ret ?_
    refine xm_inR ?_
    refine xm_thenR ?_
    refine xm_lret ?_
    refine xm_inR ?_
    refine xm_lret ?_
    exact xm_retT rfl (by kernel_rfl) (show _ = Value.int .i64 _ from rfl) fun w1 c1 => ⟨(), rfl, hsub [] (by kernel_rfl) rfl w1 c1⟩
   ·refine cm_skip ?_
    refine xm_inN ?_
    refine xm_next ?_
    refine cm_region ?_
    refine lm_ck (fun h54 => ?_)
    refine v_ 18 (fun _ _ => op_add rfl rfl h54) ?_
    refine la 1 ((8, .int .i64 _) :: _) rfl ?_
    refine lm_nil ?_
    exact xm_lnext () sq (sh [])
  ·refine cm_exit ?_
   refine xm_thenE ?_
   refine xm_lexit ?_
   refine xm_here ?_
   exact xm_lnext () sub_nil (sh [])
 intro s29 u30
 refine sr ?_
 refine la 1 ((4, .int .i64 _) :: _) rfl ?_
 refine nn ?_
 refine cm_ret ?_
 exact xm_retT rfl (by kernel_rfl) (show _ = Value.int .i64 _ from rfl) fun w1 c1 => ⟨(), rfl, hsub [] (by kernel_rfl) rfl w1 c1⟩
/-- slices.DeleteFunc -/
def m_slices_DeleteFunc (N : Nat) (p0 : (List Int)) (p1c0 : (List ApiAssign)) (p1c1 : (List ApiEmptying)) (p1c2 : ApiWindow) (p1c3 : Int) : Option ((List Int)) :=
 Option.bind (m_slices_IndexFunc_emptying_Of_1 N p0 p1c0 p1c1 p1c2 p1c3) fun r122 => (if r122 = -1 then
  some (p0)
 else
  (andThen
   (ck (I64 (r122 + (1 : Int))) (
    (loopM (fun (s219 : (List Int) × Int × Int) =>
     (if s219.2.2 < (List.length s219.1 : Int) then
      (andThen
       (ck ((0 : Int) ≤ s219.2.2 ∧ s219.2.2 < (List.length s219.1 : Int)) (
        Option.bind (m_emptying_Of_1 N (ix s219.1 s219.2.2) p1c0 p1c1 p1c2 p1c3) fun r231 => (if (!r231) = true then
         ck ((0 : Int) ≤ s219.2.1 ∧ s219.2.1 < (List.length s219.1 : Int)) (
          ck (I64 (s219.2.1 + (1 : Int))) (
           some (.next ((List.set s219.1 (Int.toNat s219.2.1) (ix s219.1 s219.2.2)), (s219.2.1 + (1 : Int))))))
        else
         some (.next (s219.1, s219.2.1)))))
      fun (s228 : (List Int) × Int) =>
       ck (I64 (s219.2.2 + (1 : Int))) (
        some (.next (s228.1, s228.2, (s219.2.2 + (1 : Int))))))
     else
      some (.done (.next (s219.1, s219.2.1))))) N (p0, r122, (r122 + (1 : Int))))))
  fun (s180 : (List Int) × Int) =>
   ck ((0 : Int) ≤ s180.2 ∧ s180.2 ≤ (List.length s180.1 : Int)) (
    ck ((0 : Int) ≤ s180.2 ∧ s180.2 ≤ (List.length (clearAt s180.1 (Int.toNat s180.2) (0 : Int)) : Int)) (
     some ((List.take (Int.toNat s180.2) (clearAt s180.1 (Int.toNat s180.2) (0 : Int))))))))
set_option maxHeartbeats 2000000 in
set_option maxRecDepth 20000 in
theorem m_slices_DeleteFunc_ok (N : Nat) (w0 w : World) (F : List HE) (p0 : (List Int)) (p1c0 : (List ApiAssign)) (p1c1 : (List ApiEmptying)) (p1c2 : ApiWindow) (p1c3 : Int) (A_p0 : Option Addr) (n_p0 : Nat) (c_p0 : Nat) (b_p1c0 : Nat) (A_p1c0 : Option Addr) (n_p1c0 : Nat) (c_p1c0 : Nat) (b_p1c1 : Nat) (A_p1c1 : Option Addr) (n_p1c1 : Nat) (c_p1c1 : Nat) (b_p1c2 : Nat) (b_p1c3 : Nat) (hr_p1c0 : RdE w0 4 encApiAssign A_p1c0 p1c0) (hz_p1c0 : SW A_p1c0 n_p1c0 c_p1c0 (List.length p1c0)) (hr_p1c1 : RdE w0 7 encApiEmptying A_p1c1 p1c1) (hz_p1c1 : SW A_p1c1 n_p1c1 c_p1c1 (List.length p1c1)) (hw : Hs w0 ([ownE 3 1 encI A_p0 n_p0 c_p0 p0, blkE b_p1c0 24 [.slice A_p1c0 n_p1c0 c_p1c0], blkE b_p1c1 25 [.slice A_p1c1 n_p1c1 c_p1c1], blkE b_p1c2 34 [.int .i64 p1c2.From, .int .i64 p1c2.To], blkE b_p1c3 3 [.int .i64 p1c3]] ++ [packE w0.heap.size F]) w) (r : (List Int)) (hr : m_slices_DeleteFunc N p0 p1c0 p1c1 p1c2 p1c3 = some r) :
  Calls Tryz.prog 65 [.slice A_p0 n_p0 c_p0, .func (.func 66) #[] #[.pointer (some ⟨b_p1c0, 0, none⟩), .pointer (some ⟨b_p1c1, 0, none⟩), .pointer (some ⟨b_p1c2, 0, none⟩), .pointer (some ⟨b_p1c3, 0, none⟩)]].toArray w fun x w1 => ∃ u, x = .returned ((fun (_r : (List Int)) (u : Nat) => (.slice A_p0 u c_p0 : Value)) r u) ∧ Hs w0 ((fun (r : (List Int)) (u : Nat) => [ownE 3 1 encI A_p0 u c_p0 r, blkE b_p1c0 24 [.slice A_p1c0 n_p1c0 c_p1c0], blkE b_p1c1 25 [.slice A_p1c1 n_p1c1 c_p1c1], blkE b_p1c2 34 [.int .i64 p1c2.From, .int .i64 p1c2.To], blkE b_p1c3 3 [.int .i64 p1c3]]) r u ++ [packE w0.heap.size F]) w1 := by
 refine calls_cmH (n := 42) (R := fun r x w1 => ∃ u, x = .returned ((fun (_r : (List Int)) (u : Nat) => (.slice A_p0 u c_p0 : Value)) r u) ∧ Hs w0 ((fun (r : (List Int)) (u : Nat) => [ownE 3 1 encI A_p0 u c_p0 r, blkE b_p1c0 24 [.slice A_p1c0 n_p1c0 c_p1c0], blkE b_p1c1 25 [.slice A_p1c1 n_p1c1 c_p1c1], blkE b_p1c2 34 [.int .i64 p1c2.From, .int .i64 p1c2.To], blkE b_p1c3 3 [.int .i64 p1c3]]) r u ++ [packE w0.heap.size F]) w1) Tryz.func65 rfl rfl (Nat.le_of_ble_eq_true rfl) ?_ hw r hr
 unfold m_slices_DeleteFunc
 refine sr ?_
 refine la 1 ((4, .slice _ _ _) :: _) rfl ?_
 refine nn ?_
 refine sr ?_
 refine la 2 ((9, .func _ _ _) :: (8, .slice _ _ _) :: _) rfl ?_
 refine lm_call 10 (V := (fun (r : Int) (_u : Unit) => .int .i64 r)) (HR := (fun (_r : Int) (_u : Unit) => [])) (by kernel_rfl) (fun w1 => op_call (by kernel_rfl)) (fun r1 hr1 w1 c1 => m_slices_IndexFunc_emptying_Of_1_ok N w1 p0 p1c0 p1c1 p1c2 p1c3 A_p0 n_p0 c_p0 b_p1c0 A_p1c0 n_p1c0 c_p1c0 b_p1c1 A_p1c1 n_p1c1 c_p1c1 b_p1c2 b_p1c3 (c1.own 0 rfl encI_len) (c1.ownZ 0 rfl) (c1.blk 1 rfl) (hr_p1c0.old c1) hz_p1c0 (c1.blk 2 rfl) (hr_p1c1.old c1) hz_p1c1 (c1.blk 3 rfl) (c1.blk 4 rfl) r1 hr1) ?_
 intro r122 u123
 refine la 1 ((5, .int .i64 _) :: _) rfl ?_
 refine nn ?_
 refine cm_seq ?_
 refine sr ?_
 refine la 2 ((12, .bool _) :: (11, .int .i64 _) :: _) rfl ?_
 refine nn ?_
 refine cm_cond (by kernel_rfl) rfl (fun h124 => ?_) (fun h124 => ?_)
 ·refine sr ?_
  refine la 2 ((4, .slice _ _ _) :: (13, .slice _ _ _) :: _) rfl ?_
  refine nn ?_
  refine cm_ret ?_
  refine xm_thenR ?_
  exact xm_retT rfl (by kernel_rfl) (show _ = Value.slice _ _ _ from rfl) fun w1 c1 => ⟨n_p0, rfl, hsub [0, 1, 2, 3, 4, 5] (by kernel_rfl) rfl w1 c1⟩
 ·refine sk ?_
  refine cm_join (σ := (List Int) × Int) (ξ := Unit) (fun s180 u181 => [(0, .slice A_p0 n_p0 c_p0), (5, .int .i64 s180.2)]) (fun s180 u181 => [ownE 3 1 encI A_p0 n_p0 c_p0 s180.1, blkE b_p1c0 24 [.slice A_p1c0 n_p1c0 c_p1c0], blkE b_p1c1 25 [.slice A_p1c1 n_p1c1 c_p1c1], blkE b_p1c2 34 [.int .i64 p1c2.From, .int .i64 p1c2.To], blkE b_p1c3 3 [.int .i64 p1c3], packE w0.heap.size F]) ?_ ?_
  ·refine sr ?_
   refine la 1 ((14, .int .i64 _) :: _) rfl ?_
   refine lm_ck (fun h182 => ?_)
   refine v_ 15 (fun _ _ => op_add rfl rfl h182) ?_
   refine la 1 ((6, .int .i64 _) :: _) rfl ?_
   refine nn ?_
   refine cm_block ?_
   refine cm_loop (σ := (List Int) × Int × Int) (ξ := Unit) (fun s219 u220 => [(0, .slice A_p0 n_p0 c_p0), (1, .func (.func 66) #[] #[.pointer (some ⟨b_p1c0, 0, none⟩), .pointer (some ⟨b_p1c1, 0, none⟩), .pointer (some ⟨b_p1c2, 0, none⟩), .pointer (some ⟨b_p1c3, 0, none⟩)]), (5, .int .i64 s219.2.1), (6, .int .i64 s219.2.2)]) (fun s219 u220 => [ownE 3 1 encI A_p0 n_p0 c_p0 s219.1, blkE b_p1c0 24 [.slice A_p1c0 n_p1c0 c_p1c0], blkE b_p1c1 25 [.slice A_p1c1 n_p1c1 c_p1c1], blkE b_p1c2 34 [.int .i64 p1c2.From, .int .i64 p1c2.To], blkE b_p1c3 3 [.int .i64 p1c3], packE w0.heap.size F]) () ?_ ?_ ?_
   ·exact sq
   ·exact sh [0, 1, 2, 3, 4, 5]
   intro s219 u220
   refine cm_seq ?_
   refine sr ?_
   refine la 2 ((17, .slice _ _ _) :: (16, .int .i64 _) :: _) rfl ?_
   refine v_ 18 (fun _ c1 => op_lenN rfl (by kernel_rfl) (c1.ownZ 0 rfl).2.2) ?_
   refine la 1 ((19, .bool _) :: _) rfl ?_
   refine nn ?_
   refine cm_cond (by kernel_rfl) rfl (fun h221 => ?_) (fun h221 => ?_)
   ·refine sk ?_
    refine cm_join (σ := (List Int) × Int) (ξ := Unit) (fun s228 u229 => [(0, .slice A_p0 n_p0 c_p0), (1, .func (.func 66) #[] #[.pointer (some ⟨b_p1c0, 0, none⟩), .pointer (some ⟨b_p1c1, 0, none⟩), .pointer (some ⟨b_p1c2, 0, none⟩), .pointer (some ⟨b_p1c3, 0, none⟩)]), (5, .int .i64 s228.2), (6, .int .i64 s219.2.2)]) (fun s228 u229 => [ownE 3 1 encI A_p0 n_p0 c_p0 s228.1, blkE b_p1c0 24 [.slice A_p1c0 n_p1c0 c_p1c0], blkE b_p1c1 25 [.slice A_p1c1 n_p1c1 c_p1c1], blkE b_p1c2 34 [.int .i64 p1c2.From, .int .i64 p1c2.To], blkE b_p1c3 3 [.int .i64 p1c3], packE w0.heap.size F]) ?_ ?_
    ·refine cm_block ?_
     refine sr ?_
     refine la 2 ((23, .int .i64 _) :: (22, .slice _ _ _) :: _) rfl ?_
     refine lm_ck (fun h230 => ?_)
     refine v_ 24 (fun _ c1 => oI 1 rfl rfl ((c1.own 0 rfl encI_len).addr h230.1 h230.2) (c1.ownZ 0 rfl).2.2 h230) ?_
     refine v_ 25 (fun _ c1 => oL (v := .int .i64 (ix s219.1 s219.2.2)) ((c1.own 0 rfl encI_len).cell0 h230.1 h230.2 rfl)) ?_
     refine la 1 ((7, .int .i64 _) :: _) rfl ?_
     refine nn ?_
     refine sr ?_
     refine la 2 ((27, .int .i64 _) :: (26, .func _ _ _) :: _) rfl ?_
     refine lm_call 28 (V := (fun (r : Bool) (_u : Unit) => .bool r)) (HR := (fun (_r : Bool) (_u : Unit) => [])) (by kernel_rfl) (fun w1 => op_callv rfl (by kernel_rfl)) (fun r1 hr1 w1 c1 => m_emptying_Of_1_ok N w1 (ix s219.1 s219.2.2) p1c0 p1c1 p1c2 p1c3 b_p1c0 A_p1c0 n_p1c0 c_p1c0 b_p1c1 A_p1c1 n_p1c1 c_p1c1 b_p1c2 b_p1c3 (c1.blk 1 rfl) (hr_p1c0.old c1) hz_p1c0 (c1.blk 2 rfl) (hr_p1c1.old c1) hz_p1c1 (c1.blk 3 rfl) (c1.blk 4 rfl) r1 hr1) ?_
     intro r231 u232
     refine la 1 ((29, .bool _) :: _) rfl ?_
     refine nn ?_
     refine cm_condB (by kernel_rfl) rfl (fun h233 => ?_) (fun h233 => ?_)
     ·refine sr ?_
      refine la 3 ((32, .int .i64 _) :: (31, .int .i64 _) :: (30, .slice _ _ _) :: _) rfl ?_
      refine lm_ck (fun h234 => ?_)
      refine v_ 33 (fun _ c1 => oI 1 rfl rfl ((c1.own 0 rfl encI_len).addr h234.1 h234.2) (c1.ownZ 0 rfl).2.2 h234) ?_
      refine lm_storeIx 0 (ix s219.1 s219.2.2) 0 [.int .i64 _] (by kernel_rfl) rfl rfl (by kernel_rfl) rfl rfl rfl encI_len encI_one h234.1 h234.2 (by kernel_rfl) rfl ?_
      refine nn ?_
      refine cm_region ?_
      refine la 1 ((34, .int .i64 _) :: _) rfl ?_
      refine lm_ck (fun h235 => ?_)
      refine v_ 35 (fun _ _ => op_add rfl rfl h235) ?_
      refine la 1 ((5, .int .i64 _) :: _) rfl ?_
      refine lm_nil ?_
      refine xm_inN ?_
      exact xm_lnext () sq (sh [0, 1, 2, 3, 4, 5])
     ·refine cm_skip ?_
      refine xm_inN ?_
      exact xm_lnext () sq (sh [0, 1, 2, 3, 4, 5])
    intro s228 u229
    refine cm_region ?_
    refine la 1 ((20, .int .i64 _) :: _) rfl ?_
    refine lm_ck (fun h236 => ?_)
    refine v_ 21 (fun _ _ => op_add rfl rfl h236) ?_
    refine la 1 ((6, .int .i64 _) :: _) rfl ?_
    refine lm_nil ?_
    exact xm_lnext () sq (sh [0, 1, 2, 3, 4, 5])
   ·refine cm_exit ?_
    refine xm_thenE ?_
    refine xm_lexit ?_
    refine xm_here ?_
    exact xm_lnext () sq (sh [0, 1, 2, 3, 4, 5])
  intro s180 u181
  refine sr ?_
  refine la 2 ((37, .int .i64 _) :: (36, .slice _ _ _) :: _) rfl ?_
  refine lm_ck (fun h237 => ?_)
  refine v_ 38 (fun _ c1 => op_sliceFrom (l := s180.1) 1 rfl rfl (by kernel_rfl) (by kernel_rfl) (c1.ownZ 0 rfl) h237.1 h237.2) ?_
  refine lm_clear 0 (bytes := 8) (Int.toNat s180.2) (0 : Int) (by kernel_rfl) (by kernel_rfl) encI_len encI_one rfl rfl rfl rfl rfl (fun w1 c1 => adv_at (c1.own 0 rfl encI_len) (c1.ownZ 0 rfl) h237.1 h237.2) (fun w1 c1 => by rw [(c1.ownZ 0 rfl).2.2]) (by have := h237.2; omega) ?_
  refine nn ?_
  refine sr ?_
  refine la 2 ((40, .int .i64 _) :: (39, .slice _ _ _) :: _) rfl ?_
  refine lm_ck (fun h238 => ?_)
  refine v_ 41 (fun _ c1 => op_sliceTo2 (l := (clearAt s180.1 (Int.toNat s180.2) (0 : Int))) rfl rfl (by kernel_rfl) (by kernel_rfl) (c1.ownZ 0 rfl) h238.1 h238.2) ?_
  refine la 1 ((4, .slice _ _ _) :: _) rfl ?_
  refine nn ?_
  refine cm_ret ?_
  refine xm_cut 0 rfl encI_len h238.1 h238.2 rfl ?_
  exact xm_retT rfl (by kernel_rfl) (show _ = Value.slice _ _ _ from rfl) fun w1 c1 => ⟨(Int.toNat s180.2), rfl, hsub [0, 1, 2, 3, 4, 5] (by kernel_rfl) rfl w1 c1⟩
/-- emptying.Of -/
def m_emptying_Of (N : Nat) (p0 : (List ApiEmptying)) (p1 : (List ApiAssign)) (p2 : Int) (p3 : ApiWindow) (p4 : Int) : Option ((List Int) × Int) :=
 Option.bind (m_emptying_Counts N p0 p4) fun r9 => (if r9.2 ≠ 0 then
  some ((([] : List Int), r9.2))
 else
  Option.bind (m_emptying_window N p3) fun r12 => (if (!r12) = true then
   some ((([] : List Int), (1 : Int)))
  else
   Option.bind (m_slices_DeleteFunc N r9.1 p1 p0 p3 p2) fun r15 => some ((r15, (0 : Int)))))
set_option maxRecDepth 20000 in
theorem m_emptying_Of_ok (N : Nat) (w0 : World) (p0 : (List ApiEmptying)) (p1 : (List ApiAssign)) (p2 : Int) (p3 : ApiWindow) (p4 : Int) (A_p0 : Option Addr) (n_p0 c_p0 : Nat) (A_p1 : Option Addr) (n_p1 c_p1 : Nat) (hr_p0 : RdE w0 7 encApiEmptying A_p0 p0) (hz_p0 : SW A_p0 n_p0 c_p0 (List.length p0)) (hr_p1 : RdE w0 4 encApiAssign A_p1 p1) (hz_p1 : SW A_p1 n_p1 c_p1 (List.length p1)) (r : (List Int) × Int) (hr : m_emptying_Of N p0 p1 p2 p3 p4 = some r) :
  Ret Tryz.prog 26 [.slice A_p0 n_p0 c_p0, .slice A_p1 n_p1 c_p1, .int .i64 p2, .agg #[.int .i64 p3.From, .int .i64 p3.To], .int .i64 p4] w0 (fun (r : (List Int) × Int) (u : (Option Addr) × Nat × Nat) => .tuple #[.slice u.1 u.2.1 u.2.2, .int .i64 r.2]) (fun (r : (List Int) × Int) (u : (Option Addr) × Nat × Nat) => [ownE 3 1 encI u.1 u.2.1 u.2.2 r.1]) r := by
 refine calls_v (n := 29) r hr Tryz.func26 ?_
 unfold m_emptying_Of
 refine sr ?_
 refine lm_box 5 [.slice _ _ _] (by kernel_rfl) rfl ?_
 intro b5
 refine lm_box 6 [.slice _ _ _] (by kernel_rfl) rfl ?_
 intro b6
 refine lm_box 7 [.int .i64 _] (by kernel_rfl) rfl ?_
 intro b7
 refine lm_box 8 [.int .i64 _, .int .i64 _] (by kernel_rfl) rfl ?_
 intro b8
 refine la 2 ((11, .int .i64 _) :: (10, .slice _ _ _) :: _) rfl ?_
 refine nn ?_
 refine sr ?_
 refine v_ 15 (fun _ c1 => oL (c1.cell 3 (u := .slice _ _ _) rfl rfl)) ?_
 refine la 1 ((16, .int .i64 _) :: _) rfl ?_
 refine lm_call 17 (V := (fun (r : (List Int) × Int) (u : (Option Addr) × Nat × Nat) => .tuple #[.slice u.1 u.2.1 u.2.2, .int .i64 r.2])) (HR := (fun (r : (List Int) × Int) (u : (Option Addr) × Nat × Nat) => [ownE 3 1 encI u.1 u.2.1 u.2.2 r.1])) (by kernel_rfl) (fun w1 => op_call (by kernel_rfl)) (fun r1 hr1 w1 c1 => m_emptying_Counts_ok N w1 p0 p4 A_p0 n_p0 c_p0 (hr_p0.old c1) hz_p0 r1 hr1) ?_
 intro r9 u10
 refine la 5 ((13, .int .i64 _) :: (12, .slice _ _ _) :: (19, .int .i64 _) :: (18, .slice _ _ _) :: (14, .tuple _) :: _) rfl ?_
 refine nn ?_
 refine cm_seq ?_
 refine sr ?_
 refine la 2 ((21, .bool _) :: (20, .int .i64 _) :: _) rfl ?_
 refine nn ?_
 refine cm_cond (by kernel_rfl) rfl (fun h11 => ?_) (fun h11 => ?_)
 ·refine sr ?_
  refine la 3 ((11, .int .i64 _) :: (10, .slice _ _ _) :: (22, .int .i64 _) :: _) rfl ?_
  refine nn ?_
  refine cm_ret ?_
  refine xm_thenR ?_
  refine xm_nilrow 3 1 encI ?_
  exact xm_retTT rfl (by kernel_rfl) (show _ = Value.slice _ _ _ from rfl) (by kernel_rfl) (show _ = Value.int .i64 _ from rfl) fun w1 c1 => ⟨(none, 0, 0), rfl, hsub [0] (by kernel_rfl) rfl w1 c1⟩
 ·refine sk ?_
  refine cm_seq ?_
  refine sr ?_
  refine v_ 23 (fun _ c1 => oR [.int .i64 _, .int .i64 _] (c1.cells 1 rfl rfl)) ?_
  refine lm_call 24 (V := (fun (r : Bool) (_u : Unit) => .bool r)) (HR := (fun (_r : Bool) (_u : Unit) => [])) (by kernel_rfl) (fun w1 => op_call (by kernel_rfl)) (fun r1 hr1 w1 c1 => m_emptying_window_ok N w1 p3  r1 hr1) ?_
  intro r12 u13
  refine la 1 ((25, .bool _) :: _) rfl ?_
  refine nn ?_
  refine cm_condB (by kernel_rfl) rfl (fun h14 => ?_) (fun h14 => ?_)
  ·refine sr ?_
   refine la 2 ((11, .int .i64 _) :: (10, .slice _ _ _) :: _) rfl ?_
   refine nn ?_
   refine cm_ret ?_
   refine xm_thenR ?_
   refine xm_nilrow 3 1 encI ?_
   exact xm_retTT rfl (by kernel_rfl) (show _ = Value.slice _ _ _ from rfl) (by kernel_rfl) (show _ = Value.int .i64 _ from rfl) fun w1 c1 => ⟨(none, 0, 0), rfl, hsub [0] (by kernel_rfl) rfl w1 c1⟩
  ·refine sk ?_
   refine sr ?_
   refine la 1 ((26, .slice _ _ _) :: _) rfl ?_
   refine v_ 27 (fun _ _ => op_makeFuncC [.pointer (some ⟨_, _, _⟩), .pointer (some ⟨_, _, _⟩), .pointer (some ⟨_, _, _⟩), .pointer (some ⟨_, _, _⟩)] rfl) ?_
   refine lm_callH 28 (V := (fun (_r : (List Int)) (u : Nat) => (.slice u10.1 u u10.2.2 : Value))) [ownE 3 1 encI u10.1 u10.2.1 u10.2.2 r9.1, blkE b6 24 [.slice A_p1 n_p1 c_p1], blkE b5 25 [.slice A_p0 n_p0 c_p0], blkE b8 34 [.int .i64 p3.From, .int .i64 p3.To], blkE b7 3 [.int .i64 p2]] [] (O := (fun (r : (List Int)) (u : Nat) => [ownE 3 1 encI u10.1 u u10.2.2 r, blkE b6 24 [.slice A_p1 n_p1 c_p1], blkE b5 25 [.slice A_p0 n_p0 c_p0], blkE b8 34 [.int .i64 p3.From, .int .i64 p3.To], blkE b7 3 [.int .i64 p2]])) (sh [0, 3, 4, 1, 2]) (by kernel_rfl) (fun w1 => op_call (by kernel_rfl)) (fun r1 hr1 w1 c1 => m_slices_DeleteFunc_ok N w0 w1 [] r9.1 p1 p0 p3 p2 u10.1 u10.2.1 u10.2.2 b6 A_p1 n_p1 c_p1 b5 A_p0 n_p0 c_p0 b8 b7 hr_p1 hz_p1 hr_p0 hz_p0 c1 r1 hr1) ?_
   intro r15 u16
   refine la 2 ((11, .int .i64 _) :: (10, .slice _ _ _) :: _) rfl ?_
   refine nn ?_
   refine cm_ret ?_
   exact xm_retTT rfl (by kernel_rfl) (show _ = Value.slice _ _ _ from rfl) (by kernel_rfl) (show _ = Value.int .i64 _ from rfl) fun w1 c1 => ⟨(u10.1, u16, u10.2.2), rfl, hsub [0] (by kernel_rfl) rfl w1 c1⟩
end Go.Proofs.YtpbgfdmkebnjgaaGreatDoor
