/- Models of functions, and that the code follows them. Written by deco.py. -/
import Derived.Test.YtpbgfdmkebnjgaaGreatDoorBAwake
namespace Go.Proofs.YtpbgfdmkebnjgaaGreatDoor
open Go.RowKit
set_option linter.unusedSectionVars false
variable [JF]

structure Recyclinglaw54Ask where
 ID : Int
 Household : Int
 When : ApiWindow
deriving DecidableEq, Inhabited
def encRecyclinglaw54Ask (x : Recyclinglaw54Ask) : List Value := [.int .i64 x.ID, .int .i64 x.Household, .int .i64 x.When.From, .int .i64 x.When.To]
def valRecyclinglaw54Ask (x : Recyclinglaw54Ask) : Value := .agg #[.int .i64 x.ID, .int .i64 x.Household, .int .i64 x.When.From, .int .i64 x.When.To]
theorem encRecyclinglaw54Ask_len (x : Recyclinglaw54Ask) : (encRecyclinglaw54Ask x).length = 4 := rfl
theorem encRecyclinglaw54Ask_one (x : Recyclinglaw54Ask) : (encRecyclinglaw54Ask x).all Value.oneCell' = true := rfl
/-- recyclinglaw54.great -/
def m_recyclinglaw54_great (N : Nat) (p0 : ApiAccount) : Option (Bool) :=
 (if (((((decide (20 < (List.length p0.Households : Int))) || (decide (20 < (List.length p0.Containers : Int)))) || (decide (30 < (List.length p0.Assigns : Int)))) || (decide (40 < (List.length p0.Emptyings : Int)))) || (decide (12 < (List.length p0.Tariffs : Int)))) = true then
  some (true)
 else
  (andThen
   (loopM (fun (s43 : Int) =>
    (if s43 < (List.length p0.Households : Int) then
     ck ((0 : Int) ≤ s43 ∧ s43 < (List.length p0.Households : Int)) (
      (if 100 < (ByteArray.size ((ix p0.Households s43).ID) : Int) then
       some (.done (.done (true)))
      else
       ck (I64 (s43 + (1 : Int))) (
        some (.next (s43 + (1 : Int))))))
    else
     some (.done (.next ())))) N (0 : Int))
  fun (_s29 : Unit) =>
   (andThen
    (loopM (fun (s81 : Int) =>
     (if s81 < (List.length p0.Containers : Int) then
      ck ((0 : Int) ≤ s81 ∧ s81 < (List.length p0.Containers : Int)) (
       (if 100 < (ByteArray.size ((ix p0.Containers s81).ID) : Int) then
        some (.done (.done (true)))
       else
        ck (I64 (s81 + (1 : Int))) (
         some (.next (s81 + (1 : Int))))))
     else
      some (.done (.next ())))) N (0 : Int))
   fun (_s67 : Unit) =>
    some (false))))
set_option maxHeartbeats 2000000 in
set_option maxRecDepth 20000 in
theorem m_recyclinglaw54_great_ok (N : Nat) (w0 : World) (p0 : ApiAccount) (A_p01 : Option Addr) (n_p01 c_p01 : Nat) (A_p02 : Option Addr) (n_p02 c_p02 : Nat) (A_p03 : Option Addr) (n_p03 c_p03 : Nat) (A_p04 : Option Addr) (n_p04 c_p04 : Nat) (A_p05 : Option Addr) (n_p05 c_p05 : Nat) (hr_p01 : RdE w0 2 encApiHousehold A_p01 p0.Households) (hz_p01 : SW A_p01 n_p01 c_p01 (List.length p0.Households)) (hr_p02 : RdE w0 5 encApiContainer A_p02 p0.Containers) (hz_p02 : SW A_p02 n_p02 c_p02 (List.length p0.Containers)) (_hr_p03 : RdE w0 4 encApiAssign A_p03 p0.Assigns) (hz_p03 : SW A_p03 n_p03 c_p03 (List.length p0.Assigns)) (_hr_p04 : RdE w0 7 encApiEmptying A_p04 p0.Emptyings) (hz_p04 : SW A_p04 n_p04 c_p04 (List.length p0.Emptyings)) (_hr_p05 : RdE w0 5 encApiTariff A_p05 p0.Tariffs) (hz_p05 : SW A_p05 n_p05 c_p05 (List.length p0.Tariffs)) (r : Bool) (hr : m_recyclinglaw54_great N p0 = some r) :
  Ret Tryz.prog 12 [.agg #[.slice A_p01 n_p01 c_p01, .slice A_p02 n_p02 c_p02, .slice A_p03 n_p03 c_p03, .slice A_p04 n_p04 c_p04, .slice A_p05 n_p05 c_p05, .int .i64 p0.Gap]] w0 (fun (r : Bool) (_u : Unit) => .bool r) (fun (_r : Bool) (_u : Unit) => []) r := by
 refine calls_v (n := 63) r hr Tryz.func12 ?_
 unfold m_recyclinglaw54_great
 refine sr ?_
 refine lm_box 1 [.slice _ _ _, .slice _ _ _, .slice _ _ _, .slice _ _ _, .slice _ _ _, .int .i64 _] (by kernel_rfl) rfl ?_
 intro b5
 refine la 1 ((2, .bool false) :: _) rfl ?_
 refine nn ?_
 refine cm_seq ?_
 refine cm_seq ?_
 refine cm_cutE [(32, .bool (((((decide (20 < (List.length p0.Households : Int))) || (decide (20 < (List.length p0.Containers : Int)))) || (decide (30 < (List.length p0.Assigns : Int)))) || (decide (40 < (List.length p0.Emptyings : Int)))) || (decide (12 < (List.length p0.Tariffs : Int)))))] ?_ ?_
 ·refine q_ 5 (fun _ _ => oF 0 0 rfl) ?_
  refine q_ 6 (fun _ c1 => oL (c1.cell 0 (u := .slice _ _ _) rfl rfl)) ?_
  refine q_ 7 (fun _ _ => op_lenN rfl (by kernel_rfl) hz_p01.2.2) ?_
  refine qd 8 (fun _ _ => op_gtr rfl rfl) (fun h6 => ?_) (fun h6 => ?_)
  ·refine qa 24 ((32, .bool true) :: (31, undef) :: (30, undef) :: (29, undef) :: (28, undef) :: (27, .bool true) :: (26, .bool true) :: (25, undef) :: (24, undef) :: (23, undef) :: (22, undef) :: (21, .bool true) :: (20, .bool true) :: (19, undef) :: (18, undef) :: (17, undef) :: (16, undef) :: (15, .bool true) :: (14, .bool true) :: (13, undef) :: (12, undef) :: (11, undef) :: (10, undef) :: (9, .bool true) :: _) rfl ?_
   exact leaf_q (sub_out 28 _ rfl (by kernel_rfl) ⟨(congrArg Value.bool (by rw [decide_eq_true h6] <;> rfl)), trivial⟩)
  ·refine qa 1 ((9, .bool false) :: _) rfl ?_
   refine q_ 10 (fun _ _ => oF 1 1 rfl) ?_
   refine q_ 11 (fun _ c1 => oL (c1.cell 0 (u := .slice _ _ _) rfl rfl)) ?_
   refine q_ 12 (fun _ _ => op_lenN rfl (by kernel_rfl) hz_p02.2.2) ?_
   refine qd 13 (fun _ _ => op_gtr rfl rfl) (fun h7 => ?_) (fun h7 => ?_)
   ·refine qa 19 ((32, .bool true) :: (31, undef) :: (30, undef) :: (29, undef) :: (28, undef) :: (27, .bool true) :: (26, .bool true) :: (25, undef) :: (24, undef) :: (23, undef) :: (22, undef) :: (21, .bool true) :: (20, .bool true) :: (19, undef) :: (18, undef) :: (17, undef) :: (16, undef) :: (15, .bool true) :: (14, .bool true) :: _) rfl ?_
    exact leaf_q (sub_out 28 _ rfl (by kernel_rfl) ⟨(congrArg Value.bool (by rw [decide_eq_false h6, decide_eq_true h7] <;> rfl)), trivial⟩)
   ·refine qa 2 ((15, .bool false) :: (14, .bool false) :: _) rfl ?_
    refine q_ 16 (fun _ _ => oF 2 2 rfl) ?_
    refine q_ 17 (fun _ c1 => oL (c1.cell 0 (u := .slice _ _ _) rfl rfl)) ?_
    refine q_ 18 (fun _ _ => op_lenN rfl (by kernel_rfl) hz_p03.2.2) ?_
    refine qd 19 (fun _ _ => op_gtr rfl rfl) (fun h8 => ?_) (fun h8 => ?_)
    ·refine qa 13 ((32, .bool true) :: (31, undef) :: (30, undef) :: (29, undef) :: (28, undef) :: (27, .bool true) :: (26, .bool true) :: (25, undef) :: (24, undef) :: (23, undef) :: (22, undef) :: (21, .bool true) :: (20, .bool true) :: _) rfl ?_
     exact leaf_q (sub_out 28 _ rfl (by kernel_rfl) ⟨(congrArg Value.bool (by rw [decide_eq_false h6, decide_eq_false h7, decide_eq_true h8] <;> rfl)), trivial⟩)
    ·refine qa 2 ((21, .bool false) :: (20, .bool false) :: _) rfl ?_
     refine q_ 22 (fun _ _ => oF 3 3 rfl) ?_
     refine q_ 23 (fun _ c1 => oL (c1.cell 0 (u := .slice _ _ _) rfl rfl)) ?_
     refine q_ 24 (fun _ _ => op_lenN rfl (by kernel_rfl) hz_p04.2.2) ?_
     refine qd 25 (fun _ _ => op_gtr rfl rfl) (fun h9 => ?_) (fun h9 => ?_)
     ·refine qa 7 ((32, .bool true) :: (31, undef) :: (30, undef) :: (29, undef) :: (28, undef) :: (27, .bool true) :: (26, .bool true) :: _) rfl ?_
      exact leaf_q (sub_out 28 _ rfl (by kernel_rfl) ⟨(congrArg Value.bool (by rw [decide_eq_false h6, decide_eq_false h7, decide_eq_false h8, decide_eq_true h9] <;> rfl)), trivial⟩)
     ·refine qa 2 ((27, .bool false) :: (26, .bool false) :: _) rfl ?_
      refine q_ 28 (fun _ _ => oF 4 4 rfl) ?_
      refine q_ 29 (fun _ c1 => oL (c1.cell 0 (u := .slice _ _ _) rfl rfl)) ?_
      refine q_ 30 (fun _ _ => op_lenN rfl (by kernel_rfl) hz_p05.2.2) ?_
      refine qa 2 ((32, .bool _) :: (31, .bool _) :: _) rfl ?_
      exact leaf_q (sub_out 28 _ rfl (by kernel_rfl) ⟨(congrArg Value.bool (by rw [decide_eq_false h6, decide_eq_false h7, decide_eq_false h8, decide_eq_false h9] <;> rfl)), trivial⟩)
 refine xm_next ?_
 refine cm_condB (by kernel_rfl) rfl (fun h10 => ?_) (fun h10 => ?_)
 ·refine sr ?_
  refine la 1 ((2, .bool true) :: _) rfl ?_
  refine nn ?_
  refine cm_ret ?_
  refine xm_thenR ?_
  exact xm_retT rfl (by kernel_rfl) (show _ = Value.bool true from rfl) fun w1 c1 => ⟨(), rfl, hsub [] (by kernel_rfl) rfl w1 c1⟩
 ·refine sk ?_
  refine cm_join (σ := Unit) (ξ := Unit) (fun s29 u30 => [(1, .pointer (some ⟨b5, 0, none⟩))]) (fun s29 u30 => [blkE b5 28 [.slice A_p01 n_p01 c_p01, .slice A_p02 n_p02 c_p02, .slice A_p03 n_p03 c_p03, .slice A_p04 n_p04 c_p04, .slice A_p05 n_p05 c_p05, .int .i64 p0.Gap]]) ?_ ?_
  ·refine sr ?_
   refine la 1 ((3, .int .i64 _) :: _) rfl ?_
   refine nn ?_
   refine cm_block ?_
   refine cm_loop (σ := Int) (ξ := Unit) (fun s43 u44 => [(1, .pointer (some ⟨b5, 0, none⟩)), (3, .int .i64 s43)]) (fun s43 u44 => [blkE b5 28 [.slice A_p01 n_p01 c_p01, .slice A_p02 n_p02 c_p02, .slice A_p03 n_p03 c_p03, .slice A_p04 n_p04 c_p04, .slice A_p05 n_p05 c_p05, .int .i64 p0.Gap]]) () ?_ ?_ ?_
   ·exact sq
   ·exact sh [0]
   intro s43 u44
   refine cm_seq ?_
   refine sr ?_
   refine la 1 ((33, .int .i64 _) :: _) rfl ?_
   refine v_ 34 (fun _ _ => oF 0 0 rfl) ?_
   refine v_ 35 (fun _ c1 => oL (c1.cell 0 (u := .slice _ _ _) rfl rfl)) ?_
   refine v_ 36 (fun _ _ => op_lenN rfl (by kernel_rfl) hz_p01.2.2) ?_
   refine la 1 ((37, .bool _) :: _) rfl ?_
   refine nn ?_
   refine cm_cond (by kernel_rfl) rfl (fun h45 => ?_) (fun h45 => ?_)
   ·refine sk ?_
    refine cm_seq ?_
    refine cm_block ?_
    refine sr ?_
    refine v_ 40 (fun _ _ => oF 0 0 rfl) ?_
    refine v_ 41 (fun _ c1 => oL (c1.cell 0 (u := .slice _ _ _) rfl rfl)) ?_
    refine la 1 ((42, .int .i64 _) :: _) rfl ?_
    refine lm_ck (fun h46 => ?_)
    refine v_ 43 (fun _ c1 => oI 2 rfl rfl ((hr_p01.old c1).addr h46.1 h46.2) hz_p01.2.2 h46) ?_
    refine v_ 44 (fun _ _ => op_field0 rfl (by kernel_rfl)) ?_
    refine v_ 45 (fun _ c1 => oL (v := .string ((ix p0.Households s43).ID)) ((hr_p01.old c1).cell0 h46.1 h46.2 rfl)) ?_
    refine v_ 46 (fun _ _ => op_lenS rfl (by kernel_rfl)) ?_
    refine la 1 ((47, .bool _) :: _) rfl ?_
    refine nn ?_
    refine cm_cond (by kernel_rfl) rfl (fun h47 => ?_) (fun h47 => ?_)
    ·refine sr ?_
     refine la 1 ((2, .bool true) :: _) rfl ?_
     refine nn ?_
     refine cm_ret ?_
     refine xm_inR ?_
     refine xm_thenR ?_
     refine xm_lret ?_
     refine xm_inR ?_
     refine xm_lret ?_
     exact xm_retT rfl (by kernel_rfl) (show _ = Value.bool true from rfl) fun w1 c1 => ⟨(), rfl, hsub [] (by kernel_rfl) rfl w1 c1⟩
    ·refine cm_skip ?_
     refine xm_inN ?_
     refine xm_next ?_
     refine cm_region ?_
     refine la 1 ((38, .int .i64 _) :: _) rfl ?_
     refine lm_ck (fun h48 => ?_)
     refine v_ 39 (fun _ _ => op_add rfl rfl h48) ?_
     refine la 1 ((3, .int .i64 _) :: _) rfl ?_
     refine lm_nil ?_
     exact xm_lnext () sq (sh [0])
   ·refine cm_exit ?_
    refine xm_thenE ?_
    refine xm_lexit ?_
    refine xm_here ?_
    exact xm_lnext () sq (sh [0])
  intro s29 u30
  refine cm_join (σ := Unit) (ξ := Unit) (fun s67 u68 => []) (fun s67 u68 => []) ?_ ?_
  ·refine sr ?_
   refine la 1 ((4, .int .i64 _) :: _) rfl ?_
   refine nn ?_
   refine cm_block ?_
   refine cm_loop (σ := Int) (ξ := Unit) (fun s81 u82 => [(1, .pointer (some ⟨b5, 0, none⟩)), (4, .int .i64 s81)]) (fun s81 u82 => [blkE b5 28 [.slice A_p01 n_p01 c_p01, .slice A_p02 n_p02 c_p02, .slice A_p03 n_p03 c_p03, .slice A_p04 n_p04 c_p04, .slice A_p05 n_p05 c_p05, .int .i64 p0.Gap]]) () ?_ ?_ ?_
   ·exact sq
   ·exact sh [0]
   intro s81 u82
   refine cm_seq ?_
   refine sr ?_
   refine la 1 ((48, .int .i64 _) :: _) rfl ?_
   refine v_ 49 (fun _ _ => oF 1 1 rfl) ?_
   refine v_ 50 (fun _ c1 => oL (c1.cell 0 (u := .slice _ _ _) rfl rfl)) ?_
   refine v_ 51 (fun _ _ => op_lenN rfl (by kernel_rfl) hz_p02.2.2) ?_
   refine la 1 ((52, .bool _) :: _) rfl ?_
   refine nn ?_
   refine cm_cond (by kernel_rfl) rfl (fun h83 => ?_) (fun h83 => ?_)
   ·refine sk ?_
    refine cm_seq ?_
    refine cm_block ?_
    refine sr ?_
    refine v_ 55 (fun _ _ => oF 1 1 rfl) ?_
    refine v_ 56 (fun _ c1 => oL (c1.cell 0 (u := .slice _ _ _) rfl rfl)) ?_
    refine la 1 ((57, .int .i64 _) :: _) rfl ?_
    refine lm_ck (fun h84 => ?_)
    refine v_ 58 (fun _ c1 => oI 5 rfl rfl ((hr_p02.old c1).addr h84.1 h84.2) hz_p02.2.2 h84) ?_
    refine v_ 59 (fun _ _ => op_field0 rfl (by kernel_rfl)) ?_
    refine v_ 60 (fun _ c1 => oL (v := .string ((ix p0.Containers s81).ID)) ((hr_p02.old c1).cell0 h84.1 h84.2 rfl)) ?_
    refine v_ 61 (fun _ _ => op_lenS rfl (by kernel_rfl)) ?_
    refine la 1 ((62, .bool _) :: _) rfl ?_
    refine nn ?_
    refine cm_cond (by kernel_rfl) rfl (fun h85 => ?_) (fun h85 => ?_)
    ·refine sr ?_
     refine la 1 ((2, .bool true) :: _) rfl ?_
     refine nn ?_
     refine cm_ret ?_
     refine xm_inR ?_
     refine xm_thenR ?_
     refine xm_lret ?_
     refine xm_inR ?_
     refine xm_lret ?_
     exact xm_retT rfl (by kernel_rfl) (show _ = Value.bool true from rfl) fun w1 c1 => ⟨(), rfl, hsub [] (by kernel_rfl) rfl w1 c1⟩
    ·refine cm_skip ?_
     refine xm_inN ?_
     refine xm_next ?_
     refine cm_region ?_
     refine la 1 ((53, .int .i64 _) :: _) rfl ?_
     refine lm_ck (fun h86 => ?_)
     refine v_ 54 (fun _ _ => op_add rfl rfl h86) ?_
     refine la 1 ((4, .int .i64 _) :: _) rfl ?_
     refine lm_nil ?_
     exact xm_lnext () sq (sh [0])
   ·refine cm_exit ?_
    refine xm_thenE ?_
    refine xm_lexit ?_
    refine xm_here ?_
    exact xm_lnext () sub_nil (sh [])
  intro s67 u68
  refine sr ?_
  refine la 1 ((2, .bool false) :: _) rfl ?_
  refine nn ?_
  refine cm_ret ?_
  exact xm_retT rfl (by kernel_rfl) (show _ = Value.bool false from rfl) fun w1 c1 => ⟨(), rfl, hsub [] (by kernel_rfl) rfl w1 c1⟩
end Go.Proofs.YtpbgfdmkebnjgaaGreatDoor
