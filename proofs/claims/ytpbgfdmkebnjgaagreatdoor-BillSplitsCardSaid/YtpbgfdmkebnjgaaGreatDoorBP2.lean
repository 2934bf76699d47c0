/- Models of functions, and that the code follows them. Written by deco.py. -/
import Derived.Test.YtpbgfdmkebnjgaaGreatDoorBP1
namespace Go.Proofs.YtpbgfdmkebnjgaaGreatDoor
open Go.RowKit
set_option linter.unusedSectionVars false
variable [JF]

structure ApiContainer where
 ID : ByteArray
 Kind : Int
 Litres : Int
 Grams : Int
 Node : Int
deriving DecidableEq, Inhabited
def encApiContainer (x : ApiContainer) : List Value := [.string x.ID, .int .i64 x.Kind, .int .i64 x.Litres, .int .i64 x.Grams, .int .i64 x.Node]
def valApiContainer (x : ApiContainer) : Value := .agg #[.string x.ID, .int .i64 x.Kind, .int .i64 x.Litres, .int .i64 x.Grams, .int .i64 x.Node]
theorem encApiContainer_len (x : ApiContainer) : (encApiContainer x).length = 5 := rfl
theorem encApiContainer_one (x : ApiContainer) : (encApiContainer x).all Value.oneCell' = true := rfl
structure ApiHousehold where
 ID : ByteArray
 Persons : Int
deriving DecidableEq, Inhabited
def encApiHousehold (x : ApiHousehold) : List Value := [.string x.ID, .int .i64 x.Persons]
def valApiHousehold (x : ApiHousehold) : Value := .agg #[.string x.ID, .int .i64 x.Persons]
theorem encApiHousehold_len (x : ApiHousehold) : (encApiHousehold x).length = 2 := rfl
theorem encApiHousehold_one (x : ApiHousehold) : (encApiHousehold x).all Value.oneCell' = true := rfl
/-- ident.letter -/
def m_ident_letter (_N : Nat) (p0 : Int) : Option (Bool) :=
 some ((((decide (97 ≤ p0)) && (decide (p0 ≤ 122))) || ((decide (65 ≤ p0)) && (decide (p0 ≤ 90)))))
set_option maxRecDepth 20000 in
theorem m_ident_letter_ok (N : Nat) (w0 : World) (p0 : Int)   (r : Bool) (hr : m_ident_letter N p0 = some r) :
  Ret Tryz.prog 116 [.int .u8 p0] w0 (fun (r : Bool) (_u : Unit) => .bool r) (fun (_r : Bool) (_u : Unit) => []) r := by
 refine calls_v (n := 17) r hr Tryz.func116 ?_
 unfold m_ident_letter
 refine sr ?_
 refine la 1 ((2, .bool false) :: _) rfl ?_
 refine nn ?_
 refine cm_seq ?_
 refine cm_cutE [(2, .bool (((decide (97 ≤ p0)) && (decide (p0 ≤ 122))) || ((decide (65 ≤ p0)) && (decide (p0 ≤ 90)))))] ?_ ?_
 ·refine qa 1 ((3, .int .u8 _) :: _) rfl ?_
  refine qd 4 (fun _ _ => op_geqK rfl rfl) (fun h5 => ?_) (fun h5 => ?_)
  ·refine qa 2 ((6, .int .u8 _) :: (5, .bool true) :: _) rfl ?_
   refine qd 7 (fun _ _ => op_leqK rfl rfl) (fun h6 => ?_) (fun h6 => ?_)
   ·refine qa 10 ((2, .bool true) :: (16, .bool true) :: (15, undef) :: (14, undef) :: (13, undef) :: (12, undef) :: (11, undef) :: (10, undef) :: (9, .bool true) :: (8, .bool true) :: _) rfl ?_
    exact leaf_q (sub_out 15 _ rfl (by kernel_rfl) ⟨(congrArg Value.bool (by rw [decide_eq_true h5, decide_eq_true h6] <;> rfl)), trivial⟩)
   ·refine qa 3 ((10, .int .u8 _) :: (9, .bool false) :: (8, .bool false) :: _) rfl ?_
    refine qd 11 (fun _ _ => op_geqK rfl rfl) (fun h7 => ?_) (fun h7 => ?_)
    ·refine qa 2 ((13, .int .u8 _) :: (12, .bool true) :: _) rfl ?_
     refine q_ 14 (fun _ _ => op_leqK rfl rfl) ?_
     refine qa 3 ((2, .bool _) :: (16, .bool _) :: (15, .bool _) :: _) rfl ?_
     exact leaf_q (sub_out 15 _ rfl (by kernel_rfl) ⟨(congrArg Value.bool (by rw [decide_eq_true h5, decide_eq_false h6, decide_eq_true h7] <;> rfl)), trivial⟩)
    ·refine qa 6 ((2, .bool false) :: (16, .bool false) :: (15, .bool false) :: (14, undef) :: (13, undef) :: (12, .bool false) :: _) rfl ?_
     exact leaf_q (sub_out 15 _ rfl (by kernel_rfl) ⟨(congrArg Value.bool (by rw [decide_eq_true h5, decide_eq_false h6, decide_eq_false h7] <;> rfl)), trivial⟩)
  ·refine qa 6 ((10, .int .u8 _) :: (9, .bool false) :: (8, .bool false) :: (7, undef) :: (6, undef) :: (5, .bool false) :: _) rfl ?_
   refine qd 11 (fun _ _ => op_geqK rfl rfl) (fun h8 => ?_) (fun h8 => ?_)
   ·refine qa 2 ((13, .int .u8 _) :: (12, .bool true) :: _) rfl ?_
    refine q_ 14 (fun _ _ => op_leqK rfl rfl) ?_
    refine qa 3 ((2, .bool _) :: (16, .bool _) :: (15, .bool _) :: _) rfl ?_
    exact leaf_q (sub_out 15 _ rfl (by kernel_rfl) ⟨(congrArg Value.bool (by rw [decide_eq_false h5, decide_eq_true h8] <;> rfl)), trivial⟩)
   ·refine qa 6 ((2, .bool false) :: (16, .bool false) :: (15, .bool false) :: (14, undef) :: (13, undef) :: (12, .bool false) :: _) rfl ?_
    exact leaf_q (sub_out 15 _ rfl (by kernel_rfl) ⟨(congrArg Value.bool (by rw [decide_eq_false h5, decide_eq_false h8] <;> rfl)), trivial⟩)
 refine xm_next ?_
 refine cm_ret ?_
 exact xm_retT rfl (by kernel_rfl) (show _ = Value.bool _ from rfl) fun w1 c1 => ⟨(), rfl, hsub [] (by kernel_rfl) rfl w1 c1⟩
/-- ident.Valid -/
def m_ident_Valid (N : Nat) (p0 : ByteArray) : Option (Bool) :=
 ck ((!((decide ((ByteArray.size p0 : Int) < 1)) || (decide (32 < (ByteArray.size p0 : Int))))) = true → (0 : Int) ≤ 0 ∧ 0 < (ByteArray.size p0 : Int)) (
  callIf ((!((decide ((ByteArray.size p0 : Int) < 1)) || (decide (32 < (ByteArray.size p0 : Int))))) = true) (m_ident_letter N (bget p0 (0 : Int))) fun r6 => (if (((decide ((ByteArray.size p0 : Int) < 1)) || (decide (32 < (ByteArray.size p0 : Int)))) || (!r6)) = true then
   some (false)
  else
   (andThen
    (loopM (fun (s88 : Int) =>
     (if s88 < (ByteArray.size p0 : Int) then
      ck ((0 : Int) ≤ s88 ∧ s88 < (ByteArray.size p0 : Int)) (
       Option.bind (m_ident_letter N (bget p0 s88)) fun r92 => (if (((((!r92) && ((decide ((bget p0 s88) < 48)) || (decide (57 < (bget p0 s88))))) && (decide ((bget p0 s88) ≠ 45))) && (decide ((bget p0 s88) ≠ 95))) && (decide ((bget p0 s88) ≠ 46))) = true then
        some (.done (.done (false)))
       else
        ck (I64 (s88 + (1 : Int))) (
         some (.next (s88 + (1 : Int))))))
     else
      some (.done (.next ())))) N (1 : Int))
   fun (_s56 : Unit) =>
    some (true))))
set_option maxHeartbeats 2000000 in
set_option maxRecDepth 20000 in
theorem m_ident_Valid_ok (N : Nat) (w0 : World) (p0 : ByteArray)   (r : Bool) (hr : m_ident_Valid N p0 = some r) :
  Ret Tryz.prog 101 [.string p0] w0 (fun (r : Bool) (_u : Unit) => .bool r) (fun (_r : Bool) (_u : Unit) => []) r := by
 refine calls_v (n := 51) r hr Tryz.func101 ?_
 unfold m_ident_Valid
 refine sr ?_
 refine la 1 ((2, .bool false) :: _) rfl ?_
 refine nn ?_
 refine cm_seq ?_
 refine cm_seq ?_
 refine cm_ck (fun h5 => ?_)
 refine cm_callIf fun r6 h7 => ?_
 refine cm_cutE [(18, .bool (((decide ((ByteArray.size p0 : Int) < 1)) || (decide (32 < (ByteArray.size p0 : Int)))) || (!r6)))] ?_ ?_
 ·refine qa 1 ((5, .string _) :: _) rfl ?_
  refine q_ 6 (fun _ _ => op_lenS rfl (by kernel_rfl)) ?_
  refine qd 7 (fun _ _ => op_lss rfl rfl) (fun h8 => ?_) (fun h8 => ?_)
  ·refine qa 11 ((18, .bool true) :: (17, undef) :: (16, undef) :: (15, undef) :: (14, undef) :: (13, .bool true) :: (12, .bool true) :: (11, undef) :: (10, undef) :: (9, undef) :: (8, .bool true) :: _) rfl ?_
   exact leaf_q (sub_out 14 _ rfl (by kernel_rfl) ⟨(congrArg Value.bool (by rw [decide_eq_true h8] <;> rfl)), trivial⟩)
  ·refine qa 2 ((9, .string _) :: (8, .bool false) :: _) rfl ?_
   refine q_ 10 (fun _ _ => op_lenS rfl (by kernel_rfl)) ?_
   refine qd 11 (fun _ _ => op_gtr rfl rfl) (fun h9 => ?_) (fun h9 => ?_)
   ·refine qa 7 ((18, .bool true) :: (17, undef) :: (16, undef) :: (15, undef) :: (14, undef) :: (13, .bool true) :: (12, .bool true) :: _) rfl ?_
    exact leaf_q (sub_out 14 _ rfl (by kernel_rfl) ⟨(congrArg Value.bool (by rw [decide_eq_false h8, decide_eq_true h9] <;> rfl)), trivial⟩)
   ·refine qa 3 ((14, .string _) :: (13, .bool false) :: (12, .bool false) :: _) rfl ?_
    refine q_ 15 (fun _ _ => op_indexS rfl rfl (by kernel_rfl) (h5 (by rw [decide_eq_false h8, decide_eq_false h9] <;> rfl)).1 (h5 (by rw [decide_eq_false h8, decide_eq_false h9] <;> rfl)).2) ?_
    refine wq_call 16 (by kernel_rfl) (fun w1 c1 => op_call (by kernel_rfl)) (fun w1 c1 => (m_ident_letter_ok N w1 (bget p0 (0 : Int))  r6 (h7 (by rw [decide_eq_false h8, decide_eq_false h9] <;> rfl))).mono (fun _ _ ⟨_, hx, hu⟩ => ⟨hx, c1.call hu⟩)) ?_
    refine qa 2 ((18, .bool _) :: (17, .bool _) :: _) rfl ?_
    exact leaf_q (sub_out 14 _ rfl (by kernel_rfl) ⟨(congrArg Value.bool (by rw [decide_eq_false h8, decide_eq_false h9] <;> rfl)), trivial⟩)
 refine xm_next ?_
 refine cm_condB (by kernel_rfl) rfl (fun h10 => ?_) (fun h10 => ?_)
 ·refine sr ?_
  refine la 1 ((2, .bool false) :: _) rfl ?_
  refine nn ?_
  refine cm_ret ?_
  refine xm_thenR ?_
  exact xm_retT rfl (by kernel_rfl) (show _ = Value.bool false from rfl) fun w1 c1 => ⟨(), rfl, hsub [] (by kernel_rfl) rfl w1 c1⟩
 ·refine sk ?_
  refine cm_join (σ := Unit) (ξ := Unit) (fun s56 u57 => []) (fun s56 u57 => []) ?_ ?_
  ·refine sr ?_
   refine la 1 ((3, .int .i64 _) :: _) rfl ?_
   refine nn ?_
   refine cm_block ?_
   refine cm_loop (σ := Int) (ξ := Unit) (fun s88 u89 => [(0, .string p0), (3, .int .i64 s88)]) (fun s88 u89 => []) () ?_ ?_ ?_
   ·exact sq
   ·exact sh []
   intro s88 u89
   refine cm_seq ?_
   refine sr ?_
   refine la 2 ((20, .string _) :: (19, .int .i64 _) :: _) rfl ?_
   refine v_ 21 (fun _ _ => op_lenS rfl (by kernel_rfl)) ?_
   refine la 1 ((22, .bool _) :: _) rfl ?_
   refine nn ?_
   refine cm_cond (by kernel_rfl) rfl (fun h90 => ?_) (fun h90 => ?_)
   ·refine sk ?_
    refine cm_seq ?_
    refine cm_block ?_
    refine sr ?_
    refine la 2 ((26, .int .i64 _) :: (25, .string _) :: _) rfl ?_
    refine lm_ck (fun h91 => ?_)
    refine v_ 27 (fun _ _ => op_indexS rfl rfl (by kernel_rfl) h91.1 h91.2) ?_
    refine la 1 ((4, .int .u8 _) :: _) rfl ?_
    refine nn ?_
    refine cm_seq ?_
    refine cm_bind fun r92 h93 => ?_
    refine cm_cutE [(50, .bool (((((!r92) && ((decide ((bget p0 s88) < 48)) || (decide (57 < (bget p0 s88))))) && (decide ((bget p0 s88) ≠ 45))) && (decide ((bget p0 s88) ≠ 95))) && (decide ((bget p0 s88) ≠ 46))))] ?_ ?_
    ·refine qa 1 ((28, .int .u8 _) :: _) rfl ?_
     refine wq_callb 29 (by kernel_rfl) (fun w1 c1 => op_call (by kernel_rfl)) (fun w1 c1 => (m_ident_letter_ok N w1 (bget p0 s88)  r92 h93).mono (fun _ _ ⟨_, hx, hu⟩ => ⟨hx, c1.call hu⟩)) (fun h94 => ?_) (fun h94 => ?_)
     ·refine qa 21 ((50, .bool false) :: (49, undef) :: (48, undef) :: (47, .bool false) :: (46, .bool false) :: (45, undef) :: (44, undef) :: (43, .bool false) :: (42, .bool false) :: (41, undef) :: (40, undef) :: (39, .bool false) :: (38, .bool false) :: (37, undef) :: (36, undef) :: (35, undef) :: (34, undef) :: (33, undef) :: (32, undef) :: (31, .bool false) :: (30, .bool false) :: _) rfl ?_
      exact leaf_q (sub_out 23 _ rfl (by kernel_rfl) ⟨(congrArg Value.bool (by rw [h94] <;> rfl)), trivial⟩)
     ·refine qa 3 ((32, .int .u8 _) :: (31, .bool true) :: (30, .bool true) :: _) rfl ?_
      refine qd 33 (fun _ _ => op_lssK rfl rfl) (fun h95 => ?_) (fun h95 => ?_)
      ·refine qa 7 ((40, .int .u8 _) :: (39, .bool true) :: (38, .bool true) :: (37, .bool true) :: (36, undef) :: (35, undef) :: (34, .bool true) :: _) rfl ?_
       refine qd 41 (fun _ _ => op_neqK rfl rfl) (fun h96 => ?_) (fun h96 => ?_)
       ·refine qa 3 ((44, .int .u8 _) :: (43, .bool true) :: (42, .bool true) :: _) rfl ?_
        refine qd 45 (fun _ _ => op_neqK rfl rfl) (fun h97 => ?_) (fun h97 => ?_)
        ·refine qa 3 ((48, .int .u8 _) :: (47, .bool true) :: (46, .bool true) :: _) rfl ?_
         refine q_ 49 (fun _ _ => op_neqK rfl rfl) ?_
         refine qa 1 ((50, .bool _) :: _) rfl ?_
         exact leaf_q (sub_out 23 _ rfl (by kernel_rfl) ⟨(congrArg Value.bool (by rw [h94, decide_eq_true h95, decide_eq_true h96, decide_eq_true h97] <;> rfl)), trivial⟩)
        ·refine qa 5 ((50, .bool false) :: (49, undef) :: (48, undef) :: (47, .bool false) :: (46, .bool false) :: _) rfl ?_
         exact leaf_q (sub_out 23 _ rfl (by kernel_rfl) ⟨(congrArg Value.bool (by rw [h94, decide_eq_true h95, decide_eq_true h96, decide_eq_false h97] <;> rfl)), trivial⟩)
       ·refine qa 9 ((50, .bool false) :: (49, undef) :: (48, undef) :: (47, .bool false) :: (46, .bool false) :: (45, undef) :: (44, undef) :: (43, .bool false) :: (42, .bool false) :: _) rfl ?_
        exact leaf_q (sub_out 23 _ rfl (by kernel_rfl) ⟨(congrArg Value.bool (by rw [h94, decide_eq_true h95, decide_eq_false h96] <;> rfl)), trivial⟩)
      ·refine qa 2 ((35, .int .u8 _) :: (34, .bool false) :: _) rfl ?_
       refine qd 36 (fun _ _ => op_gtrK rfl rfl) (fun h98 => ?_) (fun h98 => ?_)
       ·refine qa 4 ((40, .int .u8 _) :: (39, .bool true) :: (38, .bool true) :: (37, .bool true) :: _) rfl ?_
        refine qd 41 (fun _ _ => op_neqK rfl rfl) (fun h99 => ?_) (fun h99 => ?_)
        ·refine qa 3 ((44, .int .u8 _) :: (43, .bool true) :: (42, .bool true) :: _) rfl ?_
         refine qd 45 (fun _ _ => op_neqK rfl rfl) (fun h100 => ?_) (fun h100 => ?_)
         ·refine qa 3 ((48, .int .u8 _) :: (47, .bool true) :: (46, .bool true) :: _) rfl ?_
          refine q_ 49 (fun _ _ => op_neqK rfl rfl) ?_
          refine qa 1 ((50, .bool _) :: _) rfl ?_
          exact leaf_q (sub_out 23 _ rfl (by kernel_rfl) ⟨(congrArg Value.bool (by rw [h94, decide_eq_false h95, decide_eq_true h98, decide_eq_true h99, decide_eq_true h100] <;> rfl)), trivial⟩)
         ·refine qa 5 ((50, .bool false) :: (49, undef) :: (48, undef) :: (47, .bool false) :: (46, .bool false) :: _) rfl ?_
          exact leaf_q (sub_out 23 _ rfl (by kernel_rfl) ⟨(congrArg Value.bool (by rw [h94, decide_eq_false h95, decide_eq_true h98, decide_eq_true h99, decide_eq_false h100] <;> rfl)), trivial⟩)
        ·refine qa 9 ((50, .bool false) :: (49, undef) :: (48, undef) :: (47, .bool false) :: (46, .bool false) :: (45, undef) :: (44, undef) :: (43, .bool false) :: (42, .bool false) :: _) rfl ?_
         exact leaf_q (sub_out 23 _ rfl (by kernel_rfl) ⟨(congrArg Value.bool (by rw [h94, decide_eq_false h95, decide_eq_true h98, decide_eq_false h99] <;> rfl)), trivial⟩)
       ·refine qa 14 ((50, .bool false) :: (49, undef) :: (48, undef) :: (47, .bool false) :: (46, .bool false) :: (45, undef) :: (44, undef) :: (43, .bool false) :: (42, .bool false) :: (41, undef) :: (40, undef) :: (39, .bool false) :: (38, .bool false) :: (37, .bool false) :: _) rfl ?_
        exact leaf_q (sub_out 23 _ rfl (by kernel_rfl) ⟨(congrArg Value.bool (by rw [h94, decide_eq_false h95, decide_eq_false h98] <;> rfl)), trivial⟩)
    refine xm_next ?_
    refine cm_condB (by kernel_rfl) rfl (fun h101 => ?_) (fun h101 => ?_)
    ·refine sr ?_
     refine la 1 ((2, .bool false) :: _) rfl ?_
     refine nn ?_
     refine cm_ret ?_
     refine xm_inR ?_
     refine xm_thenR ?_
     refine xm_lret ?_
     refine xm_inR ?_
     refine xm_lret ?_
     exact xm_retT rfl (by kernel_rfl) (show _ = Value.bool false from rfl) fun w1 c1 => ⟨(), rfl, hsub [] (by kernel_rfl) rfl w1 c1⟩
    ·refine cm_skip ?_
     refine xm_inN ?_
     refine xm_next ?_
     refine cm_region ?_
     refine la 1 ((23, .int .i64 _) :: _) rfl ?_
     refine lm_ck (fun h102 => ?_)
     refine v_ 24 (fun _ _ => op_add rfl rfl h102) ?_
     refine la 1 ((3, .int .i64 _) :: _) rfl ?_
     refine lm_nil ?_
     exact xm_lnext () sq (sh [])
   ·refine cm_exit ?_
    refine xm_thenE ?_
    refine xm_lexit ?_
    refine xm_here ?_
    exact xm_lnext () sub_nil (sh [])
  intro s56 u57
  refine sr ?_
  refine la 1 ((2, .bool true) :: _) rfl ?_
  refine nn ?_
  refine cm_ret ?_
  exact xm_retT rfl (by kernel_rfl) (show _ = Value.bool true from rfl) fun w1 c1 => ⟨(), rfl, hsub [] (by kernel_rfl) rfl w1 c1⟩
/-- container.check -/
def m_container_check (N : Nat) (p0 : ApiContainer) (p1 : Int) (p2 : Int) : Option (Int) :=
 Option.bind (m_ident_Valid N p0.ID) fun r6 => (if (!r6) = true then
  some ((5 : Int))
 else
  (if ((decide (p0.Kind < 0)) || (decide (p1 ≤ p0.Kind))) = true then
   some ((21 : Int))
  else
   (if ((((decide (p0.Litres < 1)) || (decide (40000 < p0.Litres))) || (decide (p0.Grams < 1))) || (decide (1073741824 < p0.Grams))) = true then
    some ((1 : Int))
   else
    (if ((decide (p0.Node < 0)) || (decide (p2 ≤ p0.Node))) = true then
     some ((7 : Int))
    else
     some ((0 : Int))))))
set_option maxHeartbeats 2000000 in
set_option maxRecDepth 20000 in
theorem m_container_check_ok (N : Nat) (w0 : World) (p0 : ApiContainer) (p1 : Int) (p2 : Int)   (r : Int) (hr : m_container_check N p0 p1 p2 = some r) :
  Ret Tryz.prog 71 [.agg #[.string p0.ID, .int .i64 p0.Kind, .int .i64 p0.Litres, .int .i64 p0.Grams, .int .i64 p0.Node], .int .i64 p1, .int .i64 p2] w0 (fun (r : Int) (_u : Unit) => .int .i64 r) (fun (_r : Int) (_u : Unit) => []) r := by
 refine calls_v (n := 51) r hr Tryz.func71 ?_
 unfold m_container_check
 refine sr ?_
 refine lm_box 3 [.string _, .int .i64 _, .int .i64 _, .int .i64 _, .int .i64 _] (by kernel_rfl) rfl ?_
 intro b5
 refine la 1 ((6, .int .i64 _) :: _) rfl ?_
 refine nn ?_
 refine cm_seq ?_
 refine cm_block ?_
 refine sr ?_
 refine v_ 8 (fun _ _ => oF 0 0 rfl) ?_
 refine v_ 9 (fun _ c1 => oL (c1.cell 0 (u := .string _) rfl rfl)) ?_
 refine lm_call 10 (V := (fun (r : Bool) (_u : Unit) => .bool r)) (HR := (fun (_r : Bool) (_u : Unit) => [])) (by kernel_rfl) (fun w1 => op_call (by kernel_rfl)) (fun r1 hr1 w1 c1 => m_ident_Valid_ok N w1 p0.ID  r1 hr1) ?_
 intro r6 u7
 refine la 2 ((7, .bool _) :: (11, .bool _) :: _) rfl ?_
 refine nn ?_
 refine cm_condB (by kernel_rfl) rfl (fun h8 => ?_) (fun h8 => ?_)
 ·refine sr ?_
  refine la 1 ((6, .int .i64 _) :: _) rfl ?_
  refine nn ?_
  refine cm_ret ?_
  refine xm_inR ?_
  refine xm_thenR ?_
  exact xm_retT rfl (by kernel_rfl) (show _ = Value.int .i64 _ from rfl) fun w1 c1 => ⟨(), rfl, hsub [] (by kernel_rfl) rfl w1 c1⟩
 ·refine cm_seq ?_
  refine cm_cutE [(12, .bool ((decide (p0.Kind < 0)) || (decide (p1 ≤ p0.Kind))))] ?_ ?_
  ·refine q_ 13 (fun _ _ => oF 1 1 rfl) ?_
   refine q_ 14 (fun _ c1 => oL (c1.cell 0 (u := .int .i64 _) rfl rfl)) ?_
   refine qd 15 (fun _ _ => op_lss rfl rfl) (fun h9 => ?_) (fun h9 => ?_)
   ·refine qa 7 ((12, .bool true) :: (21, .bool true) :: (20, undef) :: (19, undef) :: (18, undef) :: (17, undef) :: (16, .bool true) :: _) rfl ?_
    exact leaf_q (sub_out 10 _ rfl (by kernel_rfl) ⟨(congrArg Value.bool (by rw [decide_eq_true h9] <;> rfl)), trivial⟩)
   ·refine qa 1 ((16, .bool false) :: _) rfl ?_
    refine q_ 17 (fun _ _ => oF 1 1 rfl) ?_
    refine q_ 18 (fun _ c1 => oL (c1.cell 0 (u := .int .i64 _) rfl rfl)) ?_
    refine qa 4 ((12, .bool _) :: (21, .bool _) :: (20, .bool _) :: (19, .int .i64 _) :: _) rfl ?_
    exact leaf_q (sub_out 10 _ rfl (by kernel_rfl) ⟨(congrArg Value.bool (by rw [decide_eq_false h9] <;> rfl)), trivial⟩)
  refine xm_next ?_
  refine cm_condB (by kernel_rfl) rfl (fun h10 => ?_) (fun h10 => ?_)
  ·refine sr ?_
   refine la 1 ((6, .int .i64 _) :: _) rfl ?_
   refine nn ?_
   refine cm_ret ?_
   refine xm_inR ?_
   refine xm_thenR ?_
   exact xm_retT rfl (by kernel_rfl) (show _ = Value.int .i64 _ from rfl) fun w1 c1 => ⟨(), rfl, hsub [] (by kernel_rfl) rfl w1 c1⟩
  ·refine cm_seq ?_
   refine cm_cutE [(22, .bool ((((decide (p0.Litres < 1)) || (decide (40000 < p0.Litres))) || (decide (p0.Grams < 1))) || (decide (1073741824 < p0.Grams))))] ?_ ?_
   ·refine q_ 23 (fun _ _ => oF 2 2 rfl) ?_
    refine q_ 24 (fun _ c1 => oL (c1.cell 0 (u := .int .i64 _) rfl rfl)) ?_
    refine qd 25 (fun _ _ => op_lss rfl rfl) (fun h11 => ?_) (fun h11 => ?_)
    ·refine qa 16 ((22, .bool true) :: (40, .bool true) :: (39, undef) :: (38, undef) :: (37, undef) :: (36, .bool true) :: (35, .bool true) :: (34, undef) :: (33, undef) :: (32, undef) :: (31, .bool true) :: (30, .bool true) :: (29, undef) :: (28, undef) :: (27, undef) :: (26, .bool true) :: _) rfl ?_
     exact leaf_q (sub_out 19 _ rfl (by kernel_rfl) ⟨(congrArg Value.bool (by rw [decide_eq_true h11] <;> rfl)), trivial⟩)
    ·refine qa 1 ((26, .bool false) :: _) rfl ?_
     refine q_ 27 (fun _ _ => oF 2 2 rfl) ?_
     refine q_ 28 (fun _ c1 => oL (c1.cell 0 (u := .int .i64 _) rfl rfl)) ?_
     refine qd 29 (fun _ _ => op_gtr rfl rfl) (fun h12 => ?_) (fun h12 => ?_)
     ·refine qa 12 ((22, .bool true) :: (40, .bool true) :: (39, undef) :: (38, undef) :: (37, undef) :: (36, .bool true) :: (35, .bool true) :: (34, undef) :: (33, undef) :: (32, undef) :: (31, .bool true) :: (30, .bool true) :: _) rfl ?_
      exact leaf_q (sub_out 19 _ rfl (by kernel_rfl) ⟨(congrArg Value.bool (by rw [decide_eq_false h11, decide_eq_true h12] <;> rfl)), trivial⟩)
     ·refine qa 2 ((31, .bool false) :: (30, .bool false) :: _) rfl ?_
      refine q_ 32 (fun _ _ => oF 3 3 rfl) ?_
      refine q_ 33 (fun _ c1 => oL (c1.cell 0 (u := .int .i64 _) rfl rfl)) ?_
      refine qd 34 (fun _ _ => op_lss rfl rfl) (fun h13 => ?_) (fun h13 => ?_)
      ·refine qa 7 ((22, .bool true) :: (40, .bool true) :: (39, undef) :: (38, undef) :: (37, undef) :: (36, .bool true) :: (35, .bool true) :: _) rfl ?_
       exact leaf_q (sub_out 19 _ rfl (by kernel_rfl) ⟨(congrArg Value.bool (by rw [decide_eq_false h11, decide_eq_false h12, decide_eq_true h13] <;> rfl)), trivial⟩)
      ·refine qa 2 ((36, .bool false) :: (35, .bool false) :: _) rfl ?_
       refine q_ 37 (fun _ _ => oF 3 3 rfl) ?_
       refine q_ 38 (fun _ c1 => oL (c1.cell 0 (u := .int .i64 _) rfl rfl)) ?_
       refine qa 3 ((22, .bool _) :: (40, .bool _) :: (39, .bool _) :: _) rfl ?_
       exact leaf_q (sub_out 19 _ rfl (by kernel_rfl) ⟨(congrArg Value.bool (by rw [decide_eq_false h11, decide_eq_false h12, decide_eq_false h13] <;> rfl)), trivial⟩)
   refine xm_next ?_
   refine cm_condB (by kernel_rfl) rfl (fun h14 => ?_) (fun h14 => ?_)
   ·refine sr ?_
    refine la 1 ((6, .int .i64 _) :: _) rfl ?_
    refine nn ?_
    refine cm_ret ?_
    refine xm_inR ?_
    refine xm_thenR ?_
    exact xm_retT rfl (by kernel_rfl) (show _ = Value.int .i64 _ from rfl) fun w1 c1 => ⟨(), rfl, hsub [] (by kernel_rfl) rfl w1 c1⟩
   ·refine cm_seq ?_
    refine cm_cutE [(41, .bool ((decide (p0.Node < 0)) || (decide (p2 ≤ p0.Node))))] ?_ ?_
    ·refine q_ 42 (fun _ _ => oF 4 4 rfl) ?_
     refine q_ 43 (fun _ c1 => oL (c1.cell 0 (u := .int .i64 _) rfl rfl)) ?_
     refine qd 44 (fun _ _ => op_lss rfl rfl) (fun h15 => ?_) (fun h15 => ?_)
     ·refine qa 7 ((41, .bool true) :: (50, .bool true) :: (49, undef) :: (48, undef) :: (47, undef) :: (46, undef) :: (45, .bool true) :: _) rfl ?_
      exact leaf_q (sub_out 10 _ rfl (by kernel_rfl) ⟨(congrArg Value.bool (by rw [decide_eq_true h15] <;> rfl)), trivial⟩)
     ·refine qa 1 ((45, .bool false) :: _) rfl ?_
      refine q_ 46 (fun _ _ => oF 4 4 rfl) ?_
      refine q_ 47 (fun _ c1 => oL (c1.cell 0 (u := .int .i64 _) rfl rfl)) ?_
      refine qa 4 ((41, .bool _) :: (50, .bool _) :: (49, .bool _) :: (48, .int .i64 _) :: _) rfl ?_
      exact leaf_q (sub_out 10 _ rfl (by kernel_rfl) ⟨(congrArg Value.bool (by rw [decide_eq_false h15] <;> rfl)), trivial⟩)
    refine xm_next ?_
    refine cm_condB (by kernel_rfl) rfl (fun h16 => ?_) (fun h16 => ?_)
    ·refine sr ?_
     refine la 1 ((6, .int .i64 _) :: _) rfl ?_
     refine nn ?_
     refine cm_ret ?_
     refine xm_inR ?_
     refine xm_thenR ?_
     exact xm_retT rfl (by kernel_rfl) (show _ = Value.int .i64 _ from rfl) fun w1 c1 => ⟨(), rfl, hsub [] (by kernel_rfl) rfl w1 c1⟩
    ·refine cm_skip ?_
     refine xm_inN ?_
     refine xm_next ?_
     refine sr ?_
     refine la 1 ((6, .int .i64 _) :: _) rfl ?_
     refine nn ?_
     refine cm_ret ?_
     exact xm_retT rfl (by kernel_rfl) (show _ = Value.int .i64 _ from rfl) fun w1 c1 => ⟨(), rfl, hsub [] (by kernel_rfl) rfl w1 c1⟩
/-- container.Check -/
def m_container_Check (N : Nat) (p0 : (List ApiContainer)) (p1 : Int) (p2 : Int) : Option (Int) :=
 (if 256 < (List.length p0 : Int) then
  some ((8 : Int))
 else
  (andThen
   (loopM (fun (s53 : Int) =>
    (if s53 < (List.length p0 : Int) then
     ck ((0 : Int) ≤ s53 ∧ s53 < (List.length p0 : Int)) (
      Option.bind (m_container_check N (ix p0 s53) p1 p2) fun r58 => (if r58 ≠ 0 then
       some (.done (.done (r58)))
      else
       ck (I64 (s53 + (1 : Int))) (
        some (.next (s53 + (1 : Int))))))
    else
     some (.done (.next ())))) N (0 : Int))
  fun (_s33 : Unit) =>
   (andThen
    (loopM (fun (s110 : (List (ByteArray × Bool)) × Int) =>
     (if s110.2 < (List.length p0 : Int) then
      ck ((0 : Int) ≤ s110.2 ∧ s110.2 < (List.length p0 : Int)) (
       ck (ByteArray.size ((ix p0 s110.2).ID) ≤ 9223372036854775807) (
        (if (Option.getD (mget s110.1 ((ix p0 s110.2).ID)) false) = true then
         some (.done (.done ((6 : Int))))
        else
         ck (ByteArray.size ((ix p0 s110.2).ID) ≤ 9223372036854775807) (
          ck (I64 (s110.2 + (1 : Int))) (
           some (.next ((mput s110.1 ((ix p0 s110.2).ID) true), (s110.2 + (1 : Int)))))))))
     else
      some (.done (.next ())))) N (([] : (List (ByteArray × Bool))), (0 : Int)))
   fun (_s90 : Unit) =>
    some ((0 : Int)))))
set_option maxHeartbeats 2000000 in
set_option maxRecDepth 20000 in
theorem m_container_Check_ok (N : Nat) (w0 : World) (p0 : (List ApiContainer)) (p1 : Int) (p2 : Int) (A_p0 : Option Addr) (n_p0 c_p0 : Nat) (hr_p0 : RdE w0 5 encApiContainer A_p0 p0) (hz_p0 : SW A_p0 n_p0 c_p0 (List.length p0)) (r : Int) (hr : m_container_Check N p0 p1 p2 = some r) :
  Ret Tryz.prog 33 [.slice A_p0 n_p0 c_p0, .int .i64 p1, .int .i64 p2] w0 (fun (r : Int) (_u : Unit) => .int .i64 r) (fun (_r : Int) (_u : Unit) => []) r := by
 refine calls_v (n := 45) r hr Tryz.func33 ?_
 unfold m_container_Check
 refine sr ?_
 refine la 1 ((6, .int .i64 _) :: _) rfl ?_
 refine nn ?_
 refine cm_seq ?_
 refine sr ?_
 refine la 1 ((13, .slice _ _ _) :: _) rfl ?_
 refine v_ 14 (fun _ _ => op_lenN rfl (by kernel_rfl) hz_p0.2.2) ?_
 refine la 1 ((15, .bool _) :: _) rfl ?_
 refine nn ?_
 refine cm_cond (by kernel_rfl) rfl (fun h5 => ?_) (fun h5 => ?_)
 ·refine sr ?_
  refine la 1 ((6, .int .i64 _) :: _) rfl ?_
  refine nn ?_
  refine cm_ret ?_
  refine xm_thenR ?_
  exact xm_retT rfl (by kernel_rfl) (show _ = Value.int .i64 _ from rfl) fun w1 c1 => ⟨(), rfl, hsub [] (by kernel_rfl) rfl w1 c1⟩
 ·refine sk ?_
  refine cm_join (σ := Unit) (ξ := Unit) (fun s33 u34 => [(0, .slice A_p0 n_p0 c_p0)]) (fun s33 u34 => []) ?_ ?_
  ·refine sr ?_
   refine la 1 ((16, .slice _ _ _) :: _) rfl ?_
   refine v_ 17 (fun _ _ => op_lenN rfl (by kernel_rfl) hz_p0.2.2) ?_
   refine la 1 ((18, .int .i64 _) :: _) rfl ?_
   refine nn ?_
   refine cm_block ?_
   refine cm_loop (σ := Int) (ξ := Unit) (fun s53 u54 => [(0, .slice A_p0 n_p0 c_p0), (1, .int .i64 p1), (2, .int .i64 p2), (16, .slice A_p0 n_p0 c_p0), (17, .int .i64 (List.length p0 : Int)), (18, .int .i64 s53)]) (fun s53 u54 => []) () ?_ ?_ ?_
   ·exact sq
   ·exact sh []
   intro s53 u54
   refine sr ?_
   refine la 1 ((19, .bool _) :: _) rfl ?_
   refine nn ?_
   refine cm_seq ?_
   refine cm_cond (by kernel_rfl) rfl (fun h55 => ?_) (fun h55 => ?_)
   ·refine sk ?_
    refine cm_seq ?_
    refine cm_block ?_
    refine sr ?_
    refine lm_ck (fun h56 => ?_)
    refine v_ 20 (fun _ c1 => oI 5 rfl rfl ((hr_p0.old c1).addr h56.1 h56.2) hz_p0.2.2 h56) ?_
    refine v_ 21 (fun _ c1 => oR [.string ((ix p0 s53).ID), .int .i64 ((ix p0 s53).Kind), .int .i64 ((ix p0 s53).Litres), .int .i64 ((ix p0 s53).Grams), .int .i64 ((ix p0 s53).Node)] ((hr_p0.old c1).row h56.1 h56.2)) ?_
    refine lm_alloc 8 [.string (⟨#[]⟩ : ByteArray), .int .i64 0, .int .i64 0, .int .i64 0, .int .i64 0] (v := .agg #[.string (⟨#[]⟩ : ByteArray), .int .i64 0, .int .i64 0, .int .i64 0, .int .i64 0]) (by kernel_rfl) (by kernel_rfl) rfl ?_
    intro b57
    refine lm_storeA 0 [.string _, .int .i64 _, .int .i64 _, .int .i64 _, .int .i64 _] [_, _, _, _, _] (H' := [blkE _ _ [_, _, _, _, _]]) (by kernel_rfl) rfl rfl (by kernel_rfl) rfl rfl (by kernel_rfl) rfl rfl ?_
    refine nn ?_
    refine sr ?_
    refine v_ 22 (fun _ c1 => oR [.string _, .int .i64 _, .int .i64 _, .int .i64 _, .int .i64 _] (c1.cells 0 rfl rfl)) ?_
    refine la 2 ((24, .int .i64 _) :: (23, .int .i64 _) :: _) rfl ?_
    refine lm_call 25 (V := (fun (r : Int) (_u : Unit) => .int .i64 r)) (HR := (fun (_r : Int) (_u : Unit) => [])) (by kernel_rfl) (fun w1 => op_call (by kernel_rfl)) (fun r1 hr1 w1 c1 => m_container_check_ok N w1 (ix p0 s53) p1 p2  r1 hr1) ?_
    intro r58 u59
    refine la 1 ((9, .int .i64 _) :: _) rfl ?_
    refine nn ?_
    refine sr ?_
    refine la 2 ((27, .bool _) :: (26, .int .i64 _) :: _) rfl ?_
    refine nn ?_
    refine cm_cond (by kernel_rfl) rfl (fun h60 => ?_) (fun h60 => ?_)
    ·refine sr ?_
     refine la 2 ((6, .int .i64 _) :: (28, .int .i64 _) :: _) rfl ?_
     refine nn ?_
     refine cm_ret ?_
     refine xm_inR ?_
     refine xm_thenR ?_
     refine xm_lret ?_
     refine xm_inR ?_
     refine xm_lret ?_
     exact xm_retT rfl (by kernel_rfl) (show _ = Value.int .i64 _ from rfl) fun w1 c1 => ⟨(), rfl, hsub [] (by kernel_rfl) rfl w1 c1⟩
    ·refine cm_skip ?_
     refine xm_inN ?_
     refine xm_next ?_
     refine cm_region ?_
     refine lm_ck (fun h61 => ?_)
     refine v_ 29 (fun _ _ => op_add rfl rfl h61) ?_
     refine la 1 ((18, .int .i64 _) :: _) rfl ?_
     refine lm_nil ?_
     exact xm_lnext () sq (sh [])
   ·refine cm_exit ?_
    refine xm_thenE ?_
    refine xm_lexit ?_
    refine xm_here ?_
    exact xm_lnext () sq (sh [])
  intro s33 u34
  refine sr ?_
  refine lm_makeMap (κ := ByteArray) (α := Bool) 30 9 Value.string Value.bool (by kernel_rfl) ?_
  intro b62
  refine la 1 ((10, .map (some _)) :: _) rfl ?_
  refine nn ?_
  refine cm_join (σ := Unit) (ξ := Unit) (fun s90 u91 => []) (fun s90 u91 => []) ?_ ?_
  ·refine sr ?_
   refine la 1 ((31, .slice _ _ _) :: _) rfl ?_
   refine v_ 32 (fun _ _ => op_lenN rfl (by kernel_rfl) hz_p0.2.2) ?_
   refine la 1 ((33, .int .i64 _) :: _) rfl ?_
   refine nn ?_
   refine cm_block ?_
   refine cm_loop (σ := (List (ByteArray × Bool)) × Int) (ξ := Unit) (fun s110 u111 => [(10, .map (some b62)), (31, .slice A_p0 n_p0 c_p0), (32, .int .i64 (List.length p0 : Int)), (33, .int .i64 s110.2)]) (fun s110 u111 => [mapE Tryz.prog 9 Value.string Value.bool b62 s110.1]) () ?_ ?_ ?_
   ·exact sq
   ·exact sh [0]
   intro s110 u111
   refine sr ?_
   refine la 1 ((34, .bool _) :: _) rfl ?_
   refine nn ?_
   refine cm_seq ?_
   refine cm_cond (by kernel_rfl) rfl (fun h112 => ?_) (fun h112 => ?_)
   ·refine sk ?_
    refine cm_seq ?_
    refine cm_block ?_
    refine sr ?_
    refine lm_ck (fun h113 => ?_)
    refine v_ 35 (fun _ c1 => oI 5 rfl rfl ((hr_p0.old c1).addr h113.1 h113.2) hz_p0.2.2 h113) ?_
    refine v_ 36 (fun _ c1 => oR [.string ((ix p0 s110.2).ID), .int .i64 ((ix p0 s110.2).Kind), .int .i64 ((ix p0 s110.2).Litres), .int .i64 ((ix p0 s110.2).Grams), .int .i64 ((ix p0 s110.2).Node)] ((hr_p0.old c1).row h113.1 h113.2)) ?_
    refine lm_alloc 12 [.string (⟨#[]⟩ : ByteArray), .int .i64 0, .int .i64 0, .int .i64 0, .int .i64 0] (v := .agg #[.string (⟨#[]⟩ : ByteArray), .int .i64 0, .int .i64 0, .int .i64 0, .int .i64 0]) (by kernel_rfl) (by kernel_rfl) rfl ?_
    intro b114
    refine lm_storeA 0 [.string _, .int .i64 _, .int .i64 _, .int .i64 _, .int .i64 _] [_, _, _, _, _] (H' := [blkE _ _ [_, _, _, _, _], _]) (by kernel_rfl) rfl rfl (by kernel_rfl) rfl rfl (by kernel_rfl) rfl rfl ?_
    refine nn ?_
    refine cm_seq ?_
    refine sr ?_
    refine la 1 ((37, .map (some _)) :: _) rfl ?_
    refine v_ 38 (fun _ _ => oF 0 0 rfl) ?_
    refine v_ 39 (fun _ c1 => oL (c1.cell 0 (u := .string _) rfl rfl)) ?_
    refine lm_ck (fun h115 => ?_)
    refine v_ 40 (fun _ c1 => op_lookup (κ := ByteArray) (α := Bool) (ek := Value.string) (ev := Value.bool) (l := s110.1) (y := ((ix p0 s110.2).ID)) false rfl rfl (Maps.string_keyed Tryz.underlying9) ek_str (key_str Tryz.underlying9 h115) Tryz.underlying109 rfl (c1.map 1 rfl)) ?_
    refine nn ?_
    refine cm_condB (by kernel_rfl) rfl (fun h116 => ?_) (fun h116 => ?_)
    ·refine sr ?_
     refine la 1 ((6, .int .i64 _) :: _) rfl ?_
     refine nn ?_
     refine cm_ret ?_
     refine xm_thenR ?_
     refine xm_inR ?_
     refine xm_thenR ?_
     refine xm_lret ?_
     refine xm_inR ?_
     refine xm_lret ?_
     exact xm_retT rfl (by kernel_rfl) (show _ = Value.int .i64 _ from rfl) fun w1 c1 => ⟨(), rfl, hsub [] (by kernel_rfl) rfl w1 c1⟩
    ·refine sk ?_
     refine cm_region ?_
     refine la 1 ((41, .map (some _)) :: _) rfl ?_
     refine v_ 42 (fun _ _ => oF 0 0 rfl) ?_
     refine v_ 43 (fun _ c1 => oL (c1.cell 0 (u := .string _) rfl rfl)) ?_
     refine lm_ck (fun h117 => ?_)
     refine lm_mapUpdate 1 (κ := ByteArray) (α := Bool) (ek := Value.string) (ev := Value.bool) (l := s110.1) (y := ((ix p0 s110.2).ID)) (a := true) (by kernel_rfl) rfl rfl rfl (Maps.string_keyed Tryz.underlying9) ek_str (key_str Tryz.underlying9 h117) Tryz.underlying109 rfl rfl ?_
     refine lm_nil ?_
     refine xm_inN ?_
     refine xm_next ?_
     refine cm_region ?_
     refine lm_ck (fun h118 => ?_)
     refine v_ 44 (fun _ _ => op_add rfl rfl h118) ?_
     refine la 1 ((33, .int .i64 _) :: _) rfl ?_
     refine lm_nil ?_
     exact xm_lnext () sq (sh [1])
   ·refine cm_exit ?_
    refine xm_thenE ?_
    refine xm_lexit ?_
    refine xm_here ?_
    exact xm_lnext () sub_nil (sh [])
  intro s90 u91
  refine sr ?_
  refine la 1 ((6, .int .i64 _) :: _) rfl ?_
  refine nn ?_
  refine cm_ret ?_
  exact xm_retT rfl (by kernel_rfl) (show _ = Value.int .i64 _ from rfl) fun w1 c1 => ⟨(), rfl, hsub [] (by kernel_rfl) rfl w1 c1⟩
/-- household.people$1 -/
def m_household_people_1 (_N : Nat) (p0 : ApiHousehold) (q0 : ApiHousehold) : Option (Bool) :=
 some ((decide (p0.ID = q0.ID)))
set_option maxRecDepth 20000 in
theorem m_household_people_1_ok (N : Nat) (w0 : World) (p0 : ApiHousehold) (q0 : ApiHousehold) (b_q0 : Nat) (hb_q0 : Blk w0 b_q0 75 [.string q0.ID, .int .i64 q0.Persons]) (r : Bool) (hr : m_household_people_1 N p0 q0 = some r) :
  Ret Tryz.prog 103 [.agg #[.string p0.ID, .int .i64 p0.Persons], .pointer (some ⟨b_q0, 0, none⟩)] w0 (fun (r : Bool) (_u : Unit) => .bool r) (fun (_r : Bool) (_u : Unit) => []) r := by
 refine calls_v (n := 9) r hr Tryz.func103 ?_
 unfold m_household_people_1
 refine sr ?_
 refine lm_box 2 [.string _, .int .i64 _] (by kernel_rfl) rfl ?_
 intro b5
 refine la 1 ((3, .bool false) :: _) rfl ?_
 refine nn ?_
 refine sr ?_
 refine v_ 4 (fun _ _ => oF 0 0 rfl) ?_
 refine v_ 5 (fun _ c1 => oL (c1.cell 0 (u := .string _) rfl rfl)) ?_
 refine v_ 6 (fun _ _ => oF 0 0 rfl) ?_
 refine v_ 7 (fun _ c1 => oL (c1.ocell (hb_q0.at_ 0 (u := .string _) rfl))) ?_
 refine v_ 8 (fun _ _ => op_eqlS rfl rfl) ?_
 refine la 1 ((3, .bool _) :: _) rfl ?_
 refine nn ?_
 refine cm_ret ?_
 exact xm_retT rfl (by kernel_rfl) (show _ = Value.bool _ from rfl) fun w1 c1 => ⟨(), rfl, hsub [] (by kernel_rfl) rfl w1 c1⟩
/-- slices.IndexFunc -/
def m_slices_IndexFunc_household_people_1 (N : Nat) (p0 : (List ApiHousehold)) (p1c0 : ApiHousehold) : Option (Int) :=
 (andThen
  (loopM (fun (s47 : Int) =>
   (if s47 < (List.length p0 : Int) then
    ck ((0 : Int) ≤ s47 ∧ s47 < (List.length p0 : Int)) (
     Option.bind (m_household_people_1 N (ix p0 s47) p1c0) fun r51 => (if r51 = true then
      some (.done (.done (s47)))
     else
      ck (I64 (s47 + (1 : Int))) (
       some (.next (s47 + (1 : Int))))))
   else
    some (.done (.next ())))) N (0 : Int))
 fun (_s29 : Unit) =>
  some ((-1 : Int)))
set_option maxRecDepth 20000 in
theorem m_slices_IndexFunc_household_people_1_ok (N : Nat) (w0 : World) (p0 : (List ApiHousehold)) (p1c0 : ApiHousehold) (A_p0 : Option Addr) (n_p0 c_p0 : Nat) (b_p1c0 : Nat) (hr_p0 : RdE w0 2 encApiHousehold A_p0 p0) (hz_p0 : SW A_p0 n_p0 c_p0 (List.length p0)) (hb_p1c0 : Blk w0 b_p1c0 75 [.string p1c0.ID, .int .i64 p1c0.Persons]) (r : Int) (hr : m_slices_IndexFunc_household_people_1 N p0 p1c0 = some r) :
  Ret Tryz.prog 117 [.slice A_p0 n_p0 c_p0, .func (.func 103) #[] #[.pointer (some ⟨b_p1c0, 0, none⟩)]] w0 (fun (r : Int) (_u : Unit) => .int .i64 r) (fun (_r : Int) (_u : Unit) => []) r := by
 refine calls_v (n := 19) r hr Tryz.func117 ?_
 unfold m_slices_IndexFunc_household_people_1
 refine sr ?_
 refine la 1 ((4, .int .i64 _) :: _) rfl ?_
 refine nn ?_
 refine cm_join (σ := Unit) (ξ := Unit) (fun s29 u30 => []) (fun s29 u30 => []) ?_ ?_
 ·refine sr ?_
  refine la 1 ((6, .slice _ _ _) :: _) rfl ?_
  refine v_ 7 (fun _ _ => op_lenN rfl (by kernel_rfl) hz_p0.2.2) ?_
  refine la 1 ((8, .int .i64 _) :: _) rfl ?_
  refine nn ?_
  refine cm_block ?_
  refine cm_loop (σ := Int) (ξ := Unit) (fun s47 u48 => [(0, .slice A_p0 n_p0 c_p0), (1, .func (.func 103) #[] #[.pointer (some ⟨b_p1c0, 0, none⟩)]), (7, .int .i64 (List.length p0 : Int)), (8, .int .i64 s47)]) (fun s47 u48 => []) () ?_ ?_ ?_
  ·exact sq
  ·exact sh []
  intro s47 u48
  refine sr ?_
  refine la 1 ((9, .bool _) :: _) rfl ?_
  refine nn ?_
  refine cm_seq ?_
  refine cm_cond (by kernel_rfl) rfl (fun h49 => ?_) (fun h49 => ?_)
  ·refine sk ?_
   refine cm_seq ?_
   refine cm_block ?_
   refine sr ?_
   refine la 2 ((5, .int .i64 _) :: (10, .int .i64 _) :: _) rfl ?_
   refine nn ?_
   refine sr ?_
   refine la 3 ((13, .int .i64 _) :: (12, .slice _ _ _) :: (11, .func _ _ _) :: _) rfl ?_
   refine lm_ck (fun h50 => ?_)
   refine v_ 14 (fun _ c1 => oI 2 rfl rfl ((hr_p0.old c1).addr h50.1 h50.2) hz_p0.2.2 h50) ?_
   refine v_ 15 (fun _ c1 => oR [.string ((ix p0 s47).ID), .int .i64 ((ix p0 s47).Persons)] ((hr_p0.old c1).row h50.1 h50.2)) ?_
   refine lm_call 16 (V := (fun (r : Bool) (_u : Unit) => .bool r)) (HR := (fun (_r : Bool) (_u : Unit) => [])) (by kernel_rfl) (fun w1 => op_callv rfl (by kernel_rfl)) (fun r1 hr1 w1 c1 => m_household_people_1_ok N w1 (ix p0 s47) p1c0 b_p1c0 (c1.oblk hb_p1c0) r1 hr1) ?_
   intro r51 u52
   refine nn ?_
   refine cm_condB (by kernel_rfl) rfl (fun h53 => ?_) (fun h53 => ?_)
   ·refine sr ?_
    refine la 2 ((4, .int .i64 _) :: (17, .int .i64 _) :: _) rfl ?_
    refine nn ?_
    refine cm_ret ?_
    refine xm_inR ?_
    refine xm_thenR ?_
    refine xm_lret ?_
    refine xm_inR ?_
    refine xm_lret ?_
    exact xm_retT rfl (by kernel_rfl) (show _ = Value.int .i64 _ from rfl) fun w1 c1 => ⟨(), rfl, hsub [] (by kernel_rfl) rfl w1 c1⟩
   ·refine cm_skip ?_
    refine xm_inN ?_
    refine xm_next ?_
    refine cm_region ?_
    refine lm_ck (fun h54 => ?_)
    refine v_ 18 (fun _ _ => op_add rfl rfl h54) ?_
    refine la 1 ((8, .int .i64 _) :: _) rfl ?_
    refine lm_nil ?_
    exact xm_lnext () sq (sh [])
  ·refine cm_exit ?_
   refine xm_thenE ?_
   refine xm_lexit ?_
   refine xm_here ?_
   exact xm_lnext () sub_nil (sh [])
 intro s29 u30
 refine sr ?_
 refine la 1 ((4, .int .i64 _) :: _) rfl ?_
 refine nn ?_
 refine cm_ret ?_
 exact xm_retT rfl (by kernel_rfl) (show _ = Value.int .i64 _ from rfl) fun w1 c1 => ⟨(), rfl, hsub [] (by kernel_rfl) rfl w1 c1⟩
/-- slices.ContainsFunc -/
def m_slices_ContainsFunc_household_people_1 (N : Nat) (p0 : (List ApiHousehold)) (p1c0 : ApiHousehold) : Option (Bool) :=
 Option.bind (m_slices_IndexFunc_household_people_1 N p0 p1c0) fun r5 => some ((decide (0 ≤ r5)))
set_option maxRecDepth 20000 in
theorem m_slices_ContainsFunc_household_people_1_ok (N : Nat) (w0 : World) (p0 : (List ApiHousehold)) (p1c0 : ApiHousehold) (A_p0 : Option Addr) (n_p0 c_p0 : Nat) (b_p1c0 : Nat) (hr_p0 : RdE w0 2 encApiHousehold A_p0 p0) (hz_p0 : SW A_p0 n_p0 c_p0 (List.length p0)) (hb_p1c0 : Blk w0 b_p1c0 75 [.string p1c0.ID, .int .i64 p1c0.Persons]) (r : Bool) (hr : m_slices_ContainsFunc_household_people_1 N p0 p1c0 = some r) :
  Ret Tryz.prog 102 [.slice A_p0 n_p0 c_p0, .func (.func 103) #[] #[.pointer (some ⟨b_p1c0, 0, none⟩)]] w0 (fun (r : Bool) (_u : Unit) => .bool r) (fun (_r : Bool) (_u : Unit) => []) r := by
 refine calls_v (n := 9) r hr Tryz.func102 ?_
 unfold m_slices_ContainsFunc_household_people_1
 refine sr ?_
 refine la 1 ((4, .bool false) :: _) rfl ?_
 refine nn ?_
 refine sr ?_
 refine la 2 ((6, .func _ _ _) :: (5, .slice _ _ _) :: _) rfl ?_
 refine lm_call 7 (V := (fun (r : Int) (_u : Unit) => .int .i64 r)) (HR := (fun (_r : Int) (_u : Unit) => [])) (by kernel_rfl) (fun w1 => op_call (by kernel_rfl)) (fun r1 hr1 w1 c1 => m_slices_IndexFunc_household_people_1_ok N w1 p0 p1c0 A_p0 n_p0 c_p0 b_p1c0 (hr_p0.old c1) hz_p0 (c1.oblk hb_p1c0) r1 hr1) ?_
 intro r5 u6
 refine la 2 ((4, .bool _) :: (8, .bool _) :: _) rfl ?_
 refine nn ?_
 refine cm_ret ?_
 exact xm_retT rfl (by kernel_rfl) (show _ = Value.bool _ from rfl) fun w1 c1 => ⟨(), rfl, hsub [] (by kernel_rfl) rfl w1 c1⟩
/-- household.people -/
def m_household_people (N : Nat) (p0 : (List ApiHousehold)) : Option (Int) :=
 (if 256 < (List.length p0 : Int) then
  some ((8 : Int))
 else
  (andThen
   (loopM (fun (s63 : Int) =>
    (if s63 < (List.length p0 : Int) then
     ck ((0 : Int) ≤ s63 ∧ s63 < (List.length p0 : Int)) (
      Option.bind (m_ident_Valid N ((ix p0 s63).ID)) fun r68 => (if (!r68) = true then
       some (.done (.done ((5 : Int))))
      else
       (if ((decide ((ix p0 s63).Persons < 1)) || (decide (100 < (ix p0 s63).Persons))) = true then
        some (.done (.done ((1 : Int))))
       else
        ck (I64 (s63 + (1 : Int))) (
         some (.next (s63 + (1 : Int)))))))
    else
     some (.done (.next ())))) N (0 : Int))
  fun (_s39 : Unit) =>
   (andThen
    (loopM (fun (s126 : Int) =>
     (if s126 < (List.length p0 : Int) then
      ck ((0 : Int) ≤ s126 ∧ s126 < (List.length p0 : Int)) (
       ck ((0 : Int) ≤ s126 ∧ s126 ≤ (List.length p0 : Int)) (
        Option.bind (m_slices_ContainsFunc_household_people_1 N (List.take (Int.toNat s126) p0) (ix p0 s126)) fun r132 => (if r132 = true then
         some (.done (.done ((6 : Int))))
        else
         ck (I64 (s126 + (1 : Int))) (
          some (.next (s126 + (1 : Int)))))))
     else
      some (.done (.next ())))) N (0 : Int))
   fun (_s104 : Unit) =>
    some ((0 : Int)))))
set_option maxHeartbeats 2000000 in
set_option maxRecDepth 20000 in
theorem m_household_people_ok (N : Nat) (w0 : World) (p0 : (List ApiHousehold)) (A_p0 : Option Addr) (n_p0 c_p0 : Nat) (hr_p0 : RdE w0 2 encApiHousehold A_p0 p0) (hz_p0 : SW A_p0 n_p0 c_p0 (List.length p0)) (r : Int) (hr : m_household_people N p0 = some r) :
  Ret Tryz.prog 72 [.slice A_p0 n_p0 c_p0] w0 (fun (r : Int) (_u : Unit) => .int .i64 r) (fun (_r : Int) (_u : Unit) => []) r := by
 refine calls_v (n := 42) r hr Tryz.func72 ?_
 unfold m_household_people
 refine sr ?_
 refine la 1 ((2, .int .i64 _) :: _) rfl ?_
 refine nn ?_
 refine cm_seq ?_
 refine sr ?_
 refine la 1 ((7, .slice _ _ _) :: _) rfl ?_
 refine v_ 8 (fun _ _ => op_lenN rfl (by kernel_rfl) hz_p0.2.2) ?_
 refine la 1 ((9, .bool _) :: _) rfl ?_
 refine nn ?_
 refine cm_cond (by kernel_rfl) rfl (fun h5 => ?_) (fun h5 => ?_)
 ·refine sr ?_
  refine la 1 ((2, .int .i64 _) :: _) rfl ?_
  refine nn ?_
  refine cm_ret ?_
  refine xm_thenR ?_
  exact xm_retT rfl (by kernel_rfl) (show _ = Value.int .i64 _ from rfl) fun w1 c1 => ⟨(), rfl, hsub [] (by kernel_rfl) rfl w1 c1⟩
 ·refine sk ?_
  refine cm_join (σ := Unit) (ξ := Unit) (fun s39 u40 => [(0, .slice A_p0 n_p0 c_p0)]) (fun s39 u40 => []) ?_ ?_
  ·refine sr ?_
   refine la 1 ((10, .slice _ _ _) :: _) rfl ?_
   refine v_ 11 (fun _ _ => op_lenN rfl (by kernel_rfl) hz_p0.2.2) ?_
   refine la 1 ((12, .int .i64 _) :: _) rfl ?_
   refine nn ?_
   refine cm_block ?_
   refine cm_loop (σ := Int) (ξ := Unit) (fun s63 u64 => [(0, .slice A_p0 n_p0 c_p0), (10, .slice A_p0 n_p0 c_p0), (11, .int .i64 (List.length p0 : Int)), (12, .int .i64 s63)]) (fun s63 u64 => []) () ?_ ?_ ?_
   ·exact sq
   ·exact sh []
   intro s63 u64
   refine sr ?_
   refine la 1 ((13, .bool _) :: _) rfl ?_
   refine nn ?_
   refine cm_seq ?_
   refine cm_cond (by kernel_rfl) rfl (fun h65 => ?_) (fun h65 => ?_)
   ·refine sk ?_
    refine cm_seq ?_
    refine cm_block ?_
    refine sr ?_
    refine lm_ck (fun h66 => ?_)
    refine v_ 14 (fun _ c1 => oI 2 rfl rfl ((hr_p0.old c1).addr h66.1 h66.2) hz_p0.2.2 h66) ?_
    refine v_ 15 (fun _ c1 => oR [.string ((ix p0 s63).ID), .int .i64 ((ix p0 s63).Persons)] ((hr_p0.old c1).row h66.1 h66.2)) ?_
    refine lm_alloc 4 [.string (⟨#[]⟩ : ByteArray), .int .i64 0] (v := .agg #[.string (⟨#[]⟩ : ByteArray), .int .i64 0]) (by kernel_rfl) (by kernel_rfl) rfl ?_
    intro b67
    refine lm_storeA 0 [.string _, .int .i64 _] [_, _] (H' := [blkE _ _ [_, _]]) (by kernel_rfl) rfl rfl (by kernel_rfl) rfl rfl (by kernel_rfl) rfl rfl ?_
    refine nn ?_
    refine cm_seq ?_
    refine sr ?_
    refine v_ 16 (fun _ _ => oF 0 0 rfl) ?_
    refine v_ 17 (fun _ c1 => oL (c1.cell 0 (u := .string _) rfl rfl)) ?_
    refine lm_call 18 (V := (fun (r : Bool) (_u : Unit) => .bool r)) (HR := (fun (_r : Bool) (_u : Unit) => [])) (by kernel_rfl) (fun w1 => op_call (by kernel_rfl)) (fun r1 hr1 w1 c1 => m_ident_Valid_ok N w1 ((ix p0 s63).ID)  r1 hr1) ?_
    intro r68 u69
    refine la 1 ((19, .bool _) :: _) rfl ?_
    refine nn ?_
    refine cm_condB (by kernel_rfl) rfl (fun h70 => ?_) (fun h70 => ?_)
    ·refine sr ?_
     refine la 1 ((2, .int .i64 _) :: _) rfl ?_
     refine nn ?_
     refine cm_ret ?_
     refine xm_thenR ?_
     refine xm_inR ?_
     refine xm_thenR ?_
     refine xm_lret ?_
     refine xm_inR ?_
     refine xm_lret ?_
     exact xm_retT rfl (by kernel_rfl) (show _ = Value.int .i64 _ from rfl) fun w1 c1 => ⟨(), rfl, hsub [] (by kernel_rfl) rfl w1 c1⟩
    ·refine sk ?_
     refine cm_seq ?_
     refine cm_cutE [(27, .bool ((decide ((ix p0 s63).Persons < 1)) || (decide (100 < (ix p0 s63).Persons))))] ?_ ?_
     ·refine q_ 20 (fun _ _ => oF 1 1 rfl) ?_
      refine q_ 21 (fun _ c1 => oL (c1.cell 0 (u := .int .i64 _) rfl rfl)) ?_
      refine qd 22 (fun _ _ => op_lss rfl rfl) (fun h71 => ?_) (fun h71 => ?_)
      ·refine qa 5 ((27, .bool true) :: (26, undef) :: (25, undef) :: (24, undef) :: (23, .bool true) :: _) rfl ?_
       exact leaf_q (sub_out 8 _ rfl (by kernel_rfl) ⟨(congrArg Value.bool (by rw [decide_eq_true h71] <;> rfl)), trivial⟩)
      ·refine qa 1 ((23, .bool false) :: _) rfl ?_
       refine q_ 24 (fun _ _ => oF 1 1 rfl) ?_
       refine q_ 25 (fun _ c1 => oL (c1.cell 0 (u := .int .i64 _) rfl rfl)) ?_
       refine qa 2 ((27, .bool _) :: (26, .bool _) :: _) rfl ?_
       exact leaf_q (sub_out 8 _ rfl (by kernel_rfl) ⟨(congrArg Value.bool (by rw [decide_eq_false h71] <;> rfl)), trivial⟩)
     refine xm_next ?_
     refine cm_condB (by kernel_rfl) rfl (fun h72 => ?_) (fun h72 => ?_)
     ·refine sr ?_
      refine la 1 ((2, .int .i64 _) :: _) rfl ?_
      refine nn ?_
      refine cm_ret ?_
      refine xm_inR ?_
      refine xm_thenR ?_
      refine xm_lret ?_
      refine xm_inR ?_
      refine xm_lret ?_
      exact xm_retT rfl (by kernel_rfl) (show _ = Value.int .i64 _ from rfl) fun w1 c1 => ⟨(), rfl, hsub [] (by kernel_rfl) rfl w1 c1⟩
     ·refine cm_skip ?_
      refine xm_inN ?_
      refine xm_next ?_
      refine cm_region ?_
      refine lm_ck (fun h73 => ?_)
      refine v_ 28 (fun _ _ => op_add rfl rfl h73) ?_
      refine la 1 ((12, .int .i64 _) :: _) rfl ?_
      refine lm_nil ?_
      exact xm_lnext () sq (sh [])
   ·refine cm_exit ?_
    refine xm_thenE ?_
    refine xm_lexit ?_
    refine xm_here ?_
    exact xm_lnext () sq (sh [])
  intro s39 u40
  refine cm_join (σ := Unit) (ξ := Unit) (fun s104 u105 => []) (fun s104 u105 => []) ?_ ?_
  ·refine sr ?_
   refine la 1 ((29, .slice _ _ _) :: _) rfl ?_
   refine v_ 30 (fun _ _ => op_lenN rfl (by kernel_rfl) hz_p0.2.2) ?_
   refine la 1 ((31, .int .i64 _) :: _) rfl ?_
   refine nn ?_
   refine cm_block ?_
   refine cm_loop (σ := Int) (ξ := Unit) (fun s126 u127 => [(0, .slice A_p0 n_p0 c_p0), (29, .slice A_p0 n_p0 c_p0), (30, .int .i64 (List.length p0 : Int)), (31, .int .i64 s126)]) (fun s126 u127 => []) () ?_ ?_ ?_
   ·exact sq
   ·exact sh []
   intro s126 u127
   refine sr ?_
   refine la 1 ((32, .bool _) :: _) rfl ?_
   refine nn ?_
   refine cm_seq ?_
   refine cm_cond (by kernel_rfl) rfl (fun h128 => ?_) (fun h128 => ?_)
   ·refine sk ?_
    refine cm_seq ?_
    refine cm_block ?_
    refine sr ?_
    refine la 1 ((33, .int .i64 _) :: _) rfl ?_
    refine lm_ck (fun h129 => ?_)
    refine v_ 34 (fun _ c1 => oI 2 rfl rfl ((hr_p0.old c1).addr h129.1 h129.2) hz_p0.2.2 h129) ?_
    refine v_ 35 (fun _ c1 => oR [.string ((ix p0 s126).ID), .int .i64 ((ix p0 s126).Persons)] ((hr_p0.old c1).row h129.1 h129.2)) ?_
    refine lm_alloc 6 [.string (⟨#[]⟩ : ByteArray), .int .i64 0] (v := .agg #[.string (⟨#[]⟩ : ByteArray), .int .i64 0]) (by kernel_rfl) (by kernel_rfl) rfl ?_
    intro b130
    refine la 1 ((5, .int .i64 _) :: _) rfl ?_
    refine lm_storeA 0 [.string _, .int .i64 _] [_, _] (H' := [blkE _ _ [_, _]]) (by kernel_rfl) rfl rfl (by kernel_rfl) rfl rfl (by kernel_rfl) rfl rfl ?_
    refine nn ?_
    refine sr ?_
    refine la 2 ((37, .int .i64 _) :: (36, .slice _ _ _) :: _) rfl ?_
    refine lm_ck (fun h131 => ?_)
    refine v_ 38 (fun _ _ => op_sliceTo2 (l := p0) rfl rfl (by kernel_rfl) (by kernel_rfl) hz_p0 h131.1 h131.2) ?_
    refine v_ 39 (fun _ _ => op_makeFuncC [.pointer (some ⟨_, _, _⟩)] rfl) ?_
    refine lm_call 40 (V := (fun (r : Bool) (_u : Unit) => .bool r)) (HR := (fun (_r : Bool) (_u : Unit) => [])) (by kernel_rfl) (fun w1 => op_call (by kernel_rfl)) (fun r1 hr1 w1 c1 => m_slices_ContainsFunc_household_people_1_ok N w1 (List.take (Int.toNat s126) p0) (ix p0 s126) A_p0 (Int.toNat s126) c_p0 b130 ((hr_p0.old c1).take h131.1 h131.2) (hz_p0.take h131.1 h131.2) (c1.blk 0 rfl) r1 hr1) ?_
    intro r132 u133
    refine nn ?_
    refine cm_condB (by kernel_rfl) rfl (fun h134 => ?_) (fun h134 => ?_)
    ·refine sr ?_
     refine la 1 ((2, .int .i64 _) :: _) rfl ?_
     refine nn ?_
     refine cm_ret ?_
     refine xm_inR ?_
     refine xm_thenR ?_
     refine xm_lret ?_
     refine xm_inR ?_
     refine xm_lret ?_
     exact xm_retT rfl (by kernel_rfl) (show _ = Value.int .i64 _ from rfl) fun w1 c1 => ⟨(), rfl, hsub [] (by kernel_rfl) rfl w1 c1⟩
    ·refine cm_skip ?_
     refine xm_inN ?_
     refine xm_next ?_
     refine cm_region ?_
     refine lm_ck (fun h135 => ?_)
     refine v_ 41 (fun _ _ => op_add rfl rfl h135) ?_
     refine la 1 ((31, .int .i64 _) :: _) rfl ?_
     refine lm_nil ?_
     exact xm_lnext () sq (sh [])
   ·refine cm_exit ?_
    refine xm_thenE ?_
    refine xm_lexit ?_
    refine xm_here ?_
    exact xm_lnext () sub_nil (sh [])
  intro s104 u105
  refine sr ?_
  refine la 1 ((2, .int .i64 _) :: _) rfl ?_
  refine nn ?_
  refine cm_ret ?_
  exact xm_retT rfl (by kernel_rfl) (show _ = Value.int .i64 _ from rfl) fun w1 c1 => ⟨(), rfl, hsub [] (by kernel_rfl) rfl w1 c1⟩
/-- household.valid -/
def m_household_valid (_N : Nat) (p0 : ApiWindow) : Option (Bool) :=
 some ((((decide (0 ≤ p0.From)) && (decide (p0.From ≤ p0.To))) && (decide (p0.To ≤ 3155760000))))
set_option maxRecDepth 20000 in
theorem m_household_valid_ok (N : Nat) (w0 : World) (p0 : ApiWindow)   (r : Bool) (hr : m_household_valid N p0 = some r) :
  Ret Tryz.prog 73 [.agg #[.int .i64 p0.From, .int .i64 p0.To]] w0 (fun (r : Bool) (_u : Unit) => .bool r) (fun (_r : Bool) (_u : Unit) => []) r := by
 refine calls_v (n := 18) r hr Tryz.func73 ?_
 unfold m_household_valid
 refine sr ?_
 refine lm_box 1 [.int .i64 _, .int .i64 _] (by kernel_rfl) rfl ?_
 intro b5
 refine la 1 ((2, .bool false) :: _) rfl ?_
 refine nn ?_
 refine cm_seq ?_
 refine cm_cutE [(2, .bool (((decide (0 ≤ p0.From)) && (decide (p0.From ≤ p0.To))) && (decide (p0.To ≤ 3155760000))))] ?_ ?_
 ·refine q_ 3 (fun _ _ => oF 0 0 rfl) ?_
  refine q_ 4 (fun _ c1 => oL (c1.cell 0 (u := .int .i64 _) rfl rfl)) ?_
  refine qd 5 (fun _ _ => op_leq rfl rfl) (fun h6 => ?_) (fun h6 => ?_)
  ·refine qa 1 ((6, .bool true) :: _) rfl ?_
   refine q_ 7 (fun _ _ => oF 0 0 rfl) ?_
   refine q_ 8 (fun _ c1 => oL (c1.cell 0 (u := .int .i64 _) rfl rfl)) ?_
   refine q_ 9 (fun _ _ => oF 1 1 rfl) ?_
   refine q_ 10 (fun _ c1 => oL (c1.cell 0 (u := .int .i64 _) rfl rfl)) ?_
   refine qd 11 (fun _ _ => op_leq rfl rfl) (fun h7 => ?_) (fun h7 => ?_)
   ·refine qa 2 ((13, .bool true) :: (12, .bool true) :: _) rfl ?_
    refine q_ 14 (fun _ _ => oF 1 1 rfl) ?_
    refine q_ 15 (fun _ c1 => oL (c1.cell 0 (u := .int .i64 _) rfl rfl)) ?_
    refine qa 3 ((2, .bool _) :: (17, .bool _) :: (16, .bool _) :: _) rfl ?_
    exact leaf_q (sub_out 16 _ rfl (by kernel_rfl) ⟨(congrArg Value.bool (by rw [decide_eq_true h6, decide_eq_true h7] <;> rfl)), trivial⟩)
   ·refine qa 7 ((2, .bool false) :: (17, .bool false) :: (16, undef) :: (15, undef) :: (14, undef) :: (13, .bool false) :: (12, .bool false) :: _) rfl ?_
    exact leaf_q (sub_out 16 _ rfl (by kernel_rfl) ⟨(congrArg Value.bool (by rw [decide_eq_true h6, decide_eq_false h7] <;> rfl)), trivial⟩)
  ·refine qa 13 ((2, .bool false) :: (17, .bool false) :: (16, undef) :: (15, undef) :: (14, undef) :: (13, .bool false) :: (12, .bool false) :: (11, undef) :: (10, undef) :: (9, undef) :: (8, undef) :: (7, undef) :: (6, .bool false) :: _) rfl ?_
   exact leaf_q (sub_out 16 _ rfl (by kernel_rfl) ⟨(congrArg Value.bool (by rw [decide_eq_false h6] <;> rfl)), trivial⟩)
 refine xm_next ?_
 refine cm_ret ?_
 exact xm_retT rfl (by kernel_rfl) (show _ = Value.bool _ from rfl) fun w1 c1 => ⟨(), rfl, hsub [] (by kernel_rfl) rfl w1 c1⟩
/-- household.common -/
def m_household_common (_N : Nat) (p0 : ApiWindow) (p1 : ApiWindow) : Option (ApiWindow) :=
 some ((ApiWindow.mk (max p0.From p1.From) (min p0.To p1.To)))
set_option maxRecDepth 20000 in
theorem m_household_common_ok (N : Nat) (w0 : World) (p0 : ApiWindow) (p1 : ApiWindow)   (r : ApiWindow) (hr : m_household_common N p0 p1 = some r) :
  Ret Tryz.prog 76 [.agg #[.int .i64 p0.From, .int .i64 p0.To], .agg #[.int .i64 p1.From, .int .i64 p1.To]] w0 (fun (r : ApiWindow) (_u : Unit) => .agg #[.int .i64 r.From, .int .i64 r.To]) (fun (_r : ApiWindow) (_u : Unit) => []) r := by
 refine calls_v (n := 16) r hr Tryz.func76 ?_
 unfold m_household_common
 refine sr ?_
 refine lm_box 2 [.int .i64 _, .int .i64 _] (by kernel_rfl) rfl ?_
 intro b5
 refine lm_box 3 [.int .i64 _, .int .i64 _] (by kernel_rfl) rfl ?_
 intro b6
 refine lm_alloc 4 [.int .i64 0, .int .i64 0] (v := .agg #[.int .i64 0, .int .i64 0]) (by kernel_rfl) (by kernel_rfl) rfl ?_
 intro b7
 refine nn ?_
 refine sr ?_
 refine v_ 5 (fun _ _ => oF 0 0 rfl) ?_
 refine v_ 6 (fun _ c1 => oL (c1.cell 2 (u := .int .i64 _) rfl rfl)) ?_
 refine v_ 7 (fun _ _ => oF 0 0 rfl) ?_
 refine v_ 8 (fun _ c1 => oL (c1.cell 1 (u := .int .i64 _) rfl rfl)) ?_
 refine v_ 9 (fun _ _ => op_max rfl rfl) ?_
 refine v_ 10 (fun _ _ => oF 1 1 rfl) ?_
 refine v_ 11 (fun _ c1 => oL (c1.cell 2 (u := .int .i64 _) rfl rfl)) ?_
 refine v_ 12 (fun _ _ => oF 1 1 rfl) ?_
 refine v_ 13 (fun _ c1 => oL (c1.cell 1 (u := .int .i64 _) rfl rfl)) ?_
 refine v_ 14 (fun _ _ => op_min rfl rfl) ?_
 refine v_ 15 (fun _ _ => op_build (z := [.int .i64 0, .int .i64 0]) (tab := [(0, 1), (1, 1)]) (cs := [.int .i64 _, .int .i64 _]) [(0, [.int .i64 _]), (1, [.int .i64 _])] (by kernel_rfl) (by kernel_rfl) (fillOk_cons rfl rfl rfl (fillOk_cons rfl rfl rfl fillOk_nil)) rfl) ?_
 refine lm_storeA 0 [.int .i64 _, .int .i64 _] [_, _] (H' := [blkE _ _ [_, _], _, _]) (by kernel_rfl) rfl rfl (by kernel_rfl) rfl rfl (by kernel_rfl) rfl rfl ?_
 refine nn ?_
 refine cm_ret ?_
 exact xm_retC rfl (by kernel_rfl) (show _ = Value.pointer (some ⟨_, 0, none⟩) from rfl) (by kernel_rfl) (fun w1 c1 => c1.cells 0 (ds := [.int .i64 _, .int .i64 _]) rfl rfl) fun w1 c1 => ⟨(), rfl, hsub [] (by kernel_rfl) rfl w1 c1⟩
/-- household.empty -/
def m_household_empty (_N : Nat) (p0 : ApiWindow) : Option (Bool) :=
 some ((decide (p0.To ≤ p0.From)))
set_option maxRecDepth 20000 in
theorem m_household_empty_ok (N : Nat) (w0 : World) (p0 : ApiWindow)   (r : Bool) (hr : m_household_empty N p0 = some r) :
  Ret Tryz.prog 75 [.agg #[.int .i64 p0.From, .int .i64 p0.To]] w0 (fun (r : Bool) (_u : Unit) => .bool r) (fun (_r : Bool) (_u : Unit) => []) r := by
 refine calls_v (n := 8) r hr Tryz.func75 ?_
 unfold m_household_empty
 refine sr ?_
 refine lm_box 1 [.int .i64 _, .int .i64 _] (by kernel_rfl) rfl ?_
 intro b5
 refine la 1 ((2, .bool false) :: _) rfl ?_
 refine nn ?_
 refine sr ?_
 refine v_ 3 (fun _ _ => oF 0 0 rfl) ?_
 refine v_ 4 (fun _ c1 => oL (c1.cell 0 (u := .int .i64 _) rfl rfl)) ?_
 refine v_ 5 (fun _ _ => oF 1 1 rfl) ?_
 refine v_ 6 (fun _ c1 => oL (c1.cell 0 (u := .int .i64 _) rfl rfl)) ?_
 refine la 2 ((2, .bool _) :: (7, .bool _) :: _) rfl ?_
 refine nn ?_
 refine cm_ret ?_
 exact xm_retT rfl (by kernel_rfl) (show _ = Value.bool _ from rfl) fun w1 c1 => ⟨(), rfl, hsub [] (by kernel_rfl) rfl w1 c1⟩
/-- household.Check$1 -/
def m_household_Check_1 (N : Nat) (p0 : ApiAssign) (q0 : ApiAssign) : Option (Bool) :=
 callIf (decide (p0.Container = q0.Container) = true) (m_household_common N q0.When p0.When) fun r6 => callIf (decide (p0.Container = q0.Container) = true) (m_household_empty N r6) fun r8 => some (((decide (p0.Container = q0.Container)) && (!r8)))
set_option maxRecDepth 20000 in
theorem m_household_Check_1_ok (N : Nat) (w0 : World) (p0 : ApiAssign) (q0 : ApiAssign) (b_q0 : Nat) (hb_q0 : Blk w0 b_q0 107 [.int .i64 q0.Container, .int .i64 q0.Household, .int .i64 q0.When.From, .int .i64 q0.When.To]) (r : Bool) (hr : m_household_Check_1 N p0 q0 = some r) :
  Ret Tryz.prog 74 [.agg #[.int .i64 p0.Container, .int .i64 p0.Household, .int .i64 p0.When.From, .int .i64 p0.When.To], .pointer (some ⟨b_q0, 0, none⟩)] w0 (fun (r : Bool) (_u : Unit) => .bool r) (fun (_r : Bool) (_u : Unit) => []) r := by
 refine calls_v (n := 18) r hr Tryz.func74 ?_
 unfold m_household_Check_1
 refine sr ?_
 refine lm_box 2 [.int .i64 _, .int .i64 _, .int .i64 _, .int .i64 _] (by kernel_rfl) rfl ?_
 intro b5
 refine la 1 ((3, .bool false) :: _) rfl ?_
 refine nn ?_
 refine cm_seq ?_
 refine cm_callIf fun r6 h7 => ?_
 refine cm_callIf fun r8 h9 => ?_
 refine cm_cutE [(3, .bool ((decide (p0.Container = q0.Container)) && (!r8)))] ?_ ?_
 ·refine q_ 4 (fun _ _ => oF 0 0 rfl) ?_
  refine q_ 5 (fun _ c1 => oL (c1.cell 0 (u := .int .i64 _) rfl rfl)) ?_
  refine q_ 6 (fun _ _ => oF 0 0 rfl) ?_
  refine q_ 7 (fun _ c1 => oL (c1.ocell (hb_q0.at_ 0 (u := .int .i64 _) rfl))) ?_
  refine qd 8 (fun _ _ => op_eql rfl rfl) (fun h10 => ?_) (fun h10 => ?_)
  ·refine qa 1 ((9, .bool true) :: _) rfl ?_
   refine q_ 10 (fun _ _ => oF 2 2 rfl) ?_
   refine q_ 11 (fun _ c1 => oR [.int .i64 _, .int .i64 _] (c1.ocells hb_q0 rfl)) ?_
   refine q_ 12 (fun _ _ => oF 2 2 rfl) ?_
   refine q_ 13 (fun _ c1 => oR [.int .i64 _, .int .i64 _] (c1.cells 0 rfl rfl)) ?_
   refine wq_call 14 (by kernel_rfl) (fun w1 c1 => op_call (by kernel_rfl)) (fun w1 c1 => (m_household_common_ok N w1 q0.When p0.When  r6 (h7 (by rw [decide_eq_true h10] <;> rfl))).mono (fun _ _ ⟨_, hx, hu⟩ => ⟨hx, c1.call hu⟩)) ?_
   refine wq_call 15 (by kernel_rfl) (fun w1 c1 => op_call (by kernel_rfl)) (fun w1 c1 => (m_household_empty_ok N w1 r6  r8 (h9 (by rw [decide_eq_true h10] <;> rfl))).mono (fun _ _ ⟨_, hx, hu⟩ => ⟨hx, c1.call hu⟩)) ?_
   refine qa 3 ((3, .bool _) :: (17, .bool _) :: (16, .bool _) :: _) rfl ?_
   exact leaf_q (sub_out 15 _ rfl (by kernel_rfl) ⟨(congrArg Value.bool (by rw [decide_eq_true h10] <;> rfl)), trivial⟩)
  ·refine qa 10 ((3, .bool false) :: (17, .bool false) :: (16, undef) :: (15, undef) :: (14, undef) :: (13, undef) :: (12, undef) :: (11, undef) :: (10, undef) :: (9, .bool false) :: _) rfl ?_
   exact leaf_q (sub_out 15 _ rfl (by kernel_rfl) ⟨(congrArg Value.bool (by rw [decide_eq_false h10] <;> rfl)), trivial⟩)
 refine xm_next ?_
 refine cm_ret ?_
 exact xm_retT rfl (by kernel_rfl) (show _ = Value.bool _ from rfl) fun w1 c1 => ⟨(), rfl, hsub [] (by kernel_rfl) rfl w1 c1⟩
/-- slices.IndexFunc -/
def m_slices_IndexFunc_household_Check_1 (N : Nat) (p0 : (List ApiAssign)) (p1c0 : ApiAssign) : Option (Int) :=
 (andThen
  (loopM (fun (s47 : Int) =>
   (if s47 < (List.length p0 : Int) then
    ck ((0 : Int) ≤ s47 ∧ s47 < (List.length p0 : Int)) (
     Option.bind (m_household_Check_1 N (ix p0 s47) p1c0) fun r51 => (if r51 = true then
      some (.done (.done (s47)))
     else
      ck (I64 (s47 + (1 : Int))) (
       some (.next (s47 + (1 : Int))))))
   else
    some (.done (.next ())))) N (0 : Int))
 fun (_s29 : Unit) =>
  some ((-1 : Int)))
set_option maxRecDepth 20000 in
theorem m_slices_IndexFunc_household_Check_1_ok (N : Nat) (w0 : World) (p0 : (List ApiAssign)) (p1c0 : ApiAssign) (A_p0 : Option Addr) (n_p0 c_p0 : Nat) (b_p1c0 : Nat) (hr_p0 : RdE w0 4 encApiAssign A_p0 p0) (hz_p0 : SW A_p0 n_p0 c_p0 (List.length p0)) (hb_p1c0 : Blk w0 b_p1c0 107 [.int .i64 p1c0.Container, .int .i64 p1c0.Household, .int .i64 p1c0.When.From, .int .i64 p1c0.When.To]) (r : Int) (hr : m_slices_IndexFunc_household_Check_1 N p0 p1c0 = some r) :
  Ret Tryz.prog 104 [.slice A_p0 n_p0 c_p0, .func (.func 74) #[] #[.pointer (some ⟨b_p1c0, 0, none⟩)]] w0 (fun (r : Int) (_u : Unit) => .int .i64 r) (fun (_r : Int) (_u : Unit) => []) r := by
 refine calls_v (n := 19) r hr Tryz.func104 ?_
 unfold m_slices_IndexFunc_household_Check_1
 refine sr ?_
 refine la 1 ((4, .int .i64 _) :: _) rfl ?_
 refine nn ?_
 refine cm_join (σ := Unit) (ξ := Unit) (fun s29 u30 => []) (fun s29 u30 => []) ?_ ?_
 ·refine sr ?_
  refine la 1 ((6, .slice _ _ _) :: _) rfl ?_
  refine v_ 7 (fun _ _ => op_lenN rfl (by kernel_rfl) hz_p0.2.2) ?_
  refine la 1 ((8, .int .i64 _) :: _) rfl ?_
  refine nn ?_
  refine cm_block ?_
  refine cm_loop (σ := Int) (ξ := Unit) (fun s47 u48 => [(0, .slice A_p0 n_p0 c_p0), (1, .func (.func 74) #[] #[.pointer (some ⟨b_p1c0, 0, none⟩)]), (7, .int .i64 (List.length p0 : Int)), (8, .int .i64 s47)]) (fun s47 u48 => []) () ?_ ?_ ?_
  ·exact sq
  ·exact sh []
  intro s47 u48
  refine sr ?_
  refine la 1 ((9, .bool _) :: _) rfl ?_
  refine nn ?_
  refine cm_seq ?_
  refine cm_cond (by kernel_rfl) rfl (fun h49 => ?_) (fun h49 => ?_)
  ·refine sk ?_
   refine cm_seq ?_
   refine cm_block ?_
   refine sr ?_
   refine la 2 ((5, .int .i64 _) :: (10, .int .i64 _) :: _) rfl ?_
   refine nn ?_
   refine sr ?_
   refine la 3 ((13, .int .i64 _) :: (12, .slice _ _ _) :: (11, .func _ _ _) :: _) rfl ?_
   refine lm_ck (fun h50 => ?_)
   refine v_ 14 (fun _ c1 => oI 4 rfl rfl ((hr_p0.old c1).addr h50.1 h50.2) hz_p0.2.2 h50) ?_
   refine v_ 15 (fun _ c1 => oR [.int .i64 ((ix p0 s47).Container), .int .i64 ((ix p0 s47).Household), .int .i64 ((ix p0 s47).When.From), .int .i64 ((ix p0 s47).When.To)] ((hr_p0.old c1).row h50.1 h50.2)) ?_
   refine lm_call 16 (V := (fun (r : Bool) (_u : Unit) => .bool r)) (HR := (fun (_r : Bool) (_u : Unit) => [])) (by kernel_rfl) (fun w1 => op_callv rfl (by kernel_rfl)) (fun r1 hr1 w1 c1 => m_household_Check_1_ok N w1 (ix p0 s47) p1c0 b_p1c0 (c1.oblk hb_p1c0) r1 hr1) ?_
   intro r51 u52
   refine nn ?_
   refine cm_condB (by kernel_rfl) rfl (fun h53 => ?_) (fun h53 => ?_)
   ·refine sr ?_
    refine la 2 ((4, .int .i64 _) :: (17, .int .i64 _) :: _) rfl ?_
    refine nn ?_
    refine cm_ret ?_
    refine xm_inR ?_
    refine xm_thenR ?_
    refine xm_lret ?_
    refine xm_inR ?_
    refine xm_lret ?_
    exact xm_retT rfl (by kernel_rfl) (show _ = Value.int .i64 _ from rfl) fun w1 c1 => ⟨(), rfl, hsub [] (by kernel_rfl) rfl w1 c1⟩
   ·refine cm_skip ?_
    refine xm_inN ?_
    refine xm_next ?_
    refine cm_region ?_
    refine lm_ck (fun h54 => ?_)
    refine v_ 18 (fun _ _ => op_add rfl rfl h54) ?_
    refine la 1 ((8, .int .i64 _) :: _) rfl ?_
    refine lm_nil ?_
    exact xm_lnext () sq (sh [])
  ·refine cm_exit ?_
   refine xm_thenE ?_
   refine xm_lexit ?_
   refine xm_here ?_
   exact xm_lnext () sub_nil (sh [])
 intro s29 u30
 refine sr ?_
 refine la 1 ((4, .int .i64 _) :: _) rfl ?_
 refine nn ?_
 refine cm_ret ?_
 exact xm_retT rfl (by kernel_rfl) (show _ = Value.int .i64 _ from rfl) fun w1 c1 => ⟨(), rfl, hsub [] (by kernel_rfl) rfl w1 c1⟩
/-- slices.ContainsFunc -/
def m_slices_ContainsFunc_household_Check_1 (N : Nat) (p0 : (List ApiAssign)) (p1c0 : ApiAssign) : Option (Bool) :=
 Option.bind (m_slices_IndexFunc_household_Check_1 N p0 p1c0) fun r5 => some ((decide (0 ≤ r5)))
set_option maxRecDepth 20000 in
theorem m_slices_ContainsFunc_household_Check_1_ok (N : Nat) (w0 : World) (p0 : (List ApiAssign)) (p1c0 : ApiAssign) (A_p0 : Option Addr) (n_p0 c_p0 : Nat) (b_p1c0 : Nat) (hr_p0 : RdE w0 4 encApiAssign A_p0 p0) (hz_p0 : SW A_p0 n_p0 c_p0 (List.length p0)) (hb_p1c0 : Blk w0 b_p1c0 107 [.int .i64 p1c0.Container, .int .i64 p1c0.Household, .int .i64 p1c0.When.From, .int .i64 p1c0.When.To]) (r : Bool) (hr : m_slices_ContainsFunc_household_Check_1 N p0 p1c0 = some r) :
  Ret Tryz.prog 77 [.slice A_p0 n_p0 c_p0, .func (.func 74) #[] #[.pointer (some ⟨b_p1c0, 0, none⟩)]] w0 (fun (r : Bool) (_u : Unit) => .bool r) (fun (_r : Bool) (_u : Unit) => []) r := by
 refine calls_v (n := 9) r hr Tryz.func77 ?_
 unfold m_slices_ContainsFunc_household_Check_1
 refine sr ?_
 refine la 1 ((4, .bool false) :: _) rfl ?_
 refine nn ?_
 refine sr ?_
 refine la 2 ((6, .func _ _ _) :: (5, .slice _ _ _) :: _) rfl ?_
 refine lm_call 7 (V := (fun (r : Int) (_u : Unit) => .int .i64 r)) (HR := (fun (_r : Int) (_u : Unit) => [])) (by kernel_rfl) (fun w1 => op_call (by kernel_rfl)) (fun r1 hr1 w1 c1 => m_slices_IndexFunc_household_Check_1_ok N w1 p0 p1c0 A_p0 n_p0 c_p0 b_p1c0 (hr_p0.old c1) hz_p0 (c1.oblk hb_p1c0) r1 hr1) ?_
 intro r5 u6
 refine la 2 ((4, .bool _) :: (8, .bool _) :: _) rfl ?_
 refine nn ?_
 refine cm_ret ?_
 exact xm_retT rfl (by kernel_rfl) (show _ = Value.bool _ from rfl) fun w1 c1 => ⟨(), rfl, hsub [] (by kernel_rfl) rfl w1 c1⟩
/-- household.Check -/
def m_household_Check (N : Nat) (p0 : (List ApiHousehold)) (p1 : Int) (p2 : (List ApiAssign)) : Option (Int) :=
 (if ((decide (p1 < 0)) || (decide (256 < p1))) = true then
  some ((1 : Int))
 else
  Option.bind (m_household_people N p0) fun r7 => (if r7 ≠ 0 then
   some (r7)
  else
   (if 512 < (List.length p2 : Int) then
    some ((8 : Int))
   else
    (andThen
     (loopM (fun (s78 : Int) =>
      (if s78 < (List.length p2 : Int) then
       ck ((0 : Int) ≤ s78 ∧ s78 < (List.length p2 : Int)) (
        (if ((((decide ((ix p2 s78).Container < 0)) || (decide (p1 ≤ (ix p2 s78).Container))) || (decide ((ix p2 s78).Household < 0))) || (decide ((List.length p0 : Int) ≤ (ix p2 s78).Household))) = true then
         some (.done (.done ((7 : Int))))
        else
         Option.bind (m_household_valid N ((ix p2 s78).When)) fun r87 => (if (!r87) = true then
          some (.done (.done ((1 : Int))))
         else
          ck (I64 (s78 + (1 : Int))) (
           some (.next (s78 + (1 : Int)))))))
      else
       some (.done (.next ())))) N (0 : Int))
    fun (_s50 : Unit) =>
     (andThen
      (loopM (fun (s143 : Int) =>
       (if s143 < (List.length p2 : Int) then
        ck ((0 : Int) ≤ s143 ∧ s143 < (List.length p2 : Int)) (
         ck ((0 : Int) ≤ s143 ∧ s143 ≤ (List.length p2 : Int)) (
          Option.bind (m_slices_ContainsFunc_household_Check_1 N (List.take (Int.toNat s143) p2) (ix p2 s143)) fun r149 => (if r149 = true then
           some (.done (.done ((12 : Int))))
          else
           ck (I64 (s143 + (1 : Int))) (
            some (.next (s143 + (1 : Int)))))))
       else
        some (.done (.next ())))) N (0 : Int))
     fun (_s121 : Unit) =>
      some ((0 : Int)))))))
set_option maxHeartbeats 2000000 in
set_option maxRecDepth 20000 in
theorem m_household_Check_ok (N : Nat) (w0 : World) (p0 : (List ApiHousehold)) (p1 : Int) (p2 : (List ApiAssign)) (A_p0 : Option Addr) (n_p0 c_p0 : Nat) (A_p2 : Option Addr) (n_p2 c_p2 : Nat) (hr_p0 : RdE w0 2 encApiHousehold A_p0 p0) (hz_p0 : SW A_p0 n_p0 c_p0 (List.length p0)) (hr_p2 : RdE w0 4 encApiAssign A_p2 p2) (hz_p2 : SW A_p2 n_p2 c_p2 (List.length p2)) (r : Int) (hr : m_household_Check N p0 p1 p2 = some r) :
  Ret Tryz.prog 34 [.slice A_p0 n_p0 c_p0, .int .i64 p1, .slice A_p2 n_p2 c_p2] w0 (fun (r : Int) (_u : Unit) => .int .i64 r) (fun (_r : Int) (_u : Unit) => []) r := by
 refine calls_v (n := 73) r hr Tryz.func34 ?_
 unfold m_household_Check
 refine sr ?_
 refine la 1 ((6, .int .i64 _) :: _) rfl ?_
 refine nn ?_
 refine cm_seq ?_
 refine cm_seq ?_
 refine cm_cutE [(18, .bool ((decide (p1 < 0)) || (decide (256 < p1))))] ?_ ?_
 ·refine qa 1 ((13, .int .i64 _) :: _) rfl ?_
  refine qd 14 (fun _ _ => op_lss rfl rfl) (fun h5 => ?_) (fun h5 => ?_)
  ·refine qa 4 ((18, .bool true) :: (17, undef) :: (16, undef) :: (15, .bool true) :: _) rfl ?_
   exact leaf_q (sub_out 6 _ rfl (by kernel_rfl) ⟨(congrArg Value.bool (by rw [decide_eq_true h5] <;> rfl)), trivial⟩)
  ·refine qa 4 ((18, .bool _) :: (17, .bool _) :: (16, .int .i64 _) :: (15, .bool false) :: _) rfl ?_
   exact leaf_q (sub_out 6 _ rfl (by kernel_rfl) ⟨(congrArg Value.bool (by rw [decide_eq_false h5] <;> rfl)), trivial⟩)
 refine xm_next ?_
 refine cm_condB (by kernel_rfl) rfl (fun h6 => ?_) (fun h6 => ?_)
 ·refine sr ?_
  refine la 1 ((6, .int .i64 _) :: _) rfl ?_
  refine nn ?_
  refine cm_ret ?_
  refine xm_thenR ?_
  exact xm_retT rfl (by kernel_rfl) (show _ = Value.int .i64 _ from rfl) fun w1 c1 => ⟨(), rfl, hsub [] (by kernel_rfl) rfl w1 c1⟩
 ·refine sk ?_
  refine cm_seq ?_
  refine sr ?_
  refine la 1 ((19, .slice _ _ _) :: _) rfl ?_
  refine lm_call 20 (V := (fun (r : Int) (_u : Unit) => .int .i64 r)) (HR := (fun (_r : Int) (_u : Unit) => [])) (by kernel_rfl) (fun w1 => op_call (by kernel_rfl)) (fun r1 hr1 w1 c1 => m_household_people_ok N w1 p0 A_p0 n_p0 c_p0 (hr_p0.old c1) hz_p0 r1 hr1) ?_
  intro r7 u8
  refine la 1 ((7, .int .i64 _) :: _) rfl ?_
  refine nn ?_
  refine sr ?_
  refine la 2 ((22, .bool _) :: (21, .int .i64 _) :: _) rfl ?_
  refine nn ?_
  refine cm_cond (by kernel_rfl) rfl (fun h9 => ?_) (fun h9 => ?_)
  ·refine sr ?_
   refine la 2 ((6, .int .i64 _) :: (23, .int .i64 _) :: _) rfl ?_
   refine nn ?_
   refine cm_ret ?_
   refine xm_thenR ?_
   exact xm_retT rfl (by kernel_rfl) (show _ = Value.int .i64 _ from rfl) fun w1 c1 => ⟨(), rfl, hsub [] (by kernel_rfl) rfl w1 c1⟩
  ·refine sk ?_
   refine cm_seq ?_
   refine sr ?_
   refine la 1 ((24, .slice _ _ _) :: _) rfl ?_
   refine v_ 25 (fun _ _ => op_lenN rfl (by kernel_rfl) hz_p2.2.2) ?_
   refine la 1 ((26, .bool _) :: _) rfl ?_
   refine nn ?_
   refine cm_cond (by kernel_rfl) rfl (fun h10 => ?_) (fun h10 => ?_)
   ·refine sr ?_
    refine la 1 ((6, .int .i64 _) :: _) rfl ?_
    refine nn ?_
    refine cm_ret ?_
    refine xm_thenR ?_
    exact xm_retT rfl (by kernel_rfl) (show _ = Value.int .i64 _ from rfl) fun w1 c1 => ⟨(), rfl, hsub [] (by kernel_rfl) rfl w1 c1⟩
   ·refine sk ?_
    refine cm_join (σ := Unit) (ξ := Unit) (fun s50 u51 => [(2, .slice A_p2 n_p2 c_p2)]) (fun s50 u51 => []) ?_ ?_
    ·refine sr ?_
     refine la 1 ((27, .slice _ _ _) :: _) rfl ?_
     refine v_ 28 (fun _ _ => op_lenN rfl (by kernel_rfl) hz_p2.2.2) ?_
     refine la 1 ((29, .int .i64 _) :: _) rfl ?_
     refine nn ?_
     refine cm_block ?_
     refine cm_loop (σ := Int) (ξ := Unit) (fun s78 u79 => [(0, .slice A_p0 n_p0 c_p0), (1, .int .i64 p1), (2, .slice A_p2 n_p2 c_p2), (27, .slice A_p2 n_p2 c_p2), (28, .int .i64 (List.length p2 : Int)), (29, .int .i64 s78)]) (fun s78 u79 => []) () ?_ ?_ ?_
     ·exact sq
     ·exact sh []
     intro s78 u79
     refine sr ?_
     refine la 1 ((30, .bool _) :: _) rfl ?_
     refine nn ?_
     refine cm_seq ?_
     refine cm_cond (by kernel_rfl) rfl (fun h80 => ?_) (fun h80 => ?_)
     ·refine sk ?_
      refine cm_seq ?_
      refine cm_block ?_
      refine sr ?_
      refine lm_ck (fun h81 => ?_)
      refine v_ 31 (fun _ c1 => oI 4 rfl rfl ((hr_p2.old c1).addr h81.1 h81.2) hz_p2.2.2 h81) ?_
      refine v_ 32 (fun _ c1 => oR [.int .i64 ((ix p2 s78).Container), .int .i64 ((ix p2 s78).Household), .int .i64 ((ix p2 s78).When.From), .int .i64 ((ix p2 s78).When.To)] ((hr_p2.old c1).row h81.1 h81.2)) ?_
      refine lm_alloc 9 [.int .i64 0, .int .i64 0, .int .i64 0, .int .i64 0] (v := .agg #[.int .i64 0, .int .i64 0, .int .i64 0, .int .i64 0]) (by kernel_rfl) (by kernel_rfl) rfl ?_
      intro b82
      refine lm_storeA 0 [.int .i64 _, .int .i64 _, .int .i64 _, .int .i64 _] [_, _, _, _] (H' := [blkE _ _ [_, _, _, _]]) (by kernel_rfl) rfl rfl (by kernel_rfl) rfl rfl (by kernel_rfl) rfl rfl ?_
      refine nn ?_
      refine cm_seq ?_
      refine cm_seq ?_
      refine cm_cutE [(53, .bool ((((decide ((ix p2 s78).Container < 0)) || (decide (p1 ≤ (ix p2 s78).Container))) || (decide ((ix p2 s78).Household < 0))) || (decide ((List.length p0 : Int) ≤ (ix p2 s78).Household))))] ?_ ?_
      ·refine q_ 33 (fun _ _ => oF 0 0 rfl) ?_
       refine q_ 34 (fun _ c1 => oL (c1.cell 0 (u := .int .i64 _) rfl rfl)) ?_
       refine qd 35 (fun _ _ => op_lss rfl rfl) (fun h83 => ?_) (fun h83 => ?_)
       ·refine qa 18 ((53, .bool true) :: (52, undef) :: (51, undef) :: (50, undef) :: (49, undef) :: (48, undef) :: (47, .bool true) :: (46, .bool true) :: (45, undef) :: (44, undef) :: (43, undef) :: (42, .bool true) :: (41, .bool true) :: (40, undef) :: (39, undef) :: (38, undef) :: (37, undef) :: (36, .bool true) :: _) rfl ?_
        exact leaf_q (sub_out 21 _ rfl (by kernel_rfl) ⟨(congrArg Value.bool (by rw [decide_eq_true h83] <;> rfl)), trivial⟩)
       ·refine qa 1 ((36, .bool false) :: _) rfl ?_
        refine q_ 37 (fun _ _ => oF 0 0 rfl) ?_
        refine q_ 38 (fun _ c1 => oL (c1.cell 0 (u := .int .i64 _) rfl rfl)) ?_
        refine qa 1 ((39, .int .i64 _) :: _) rfl ?_
        refine qd 40 (fun _ _ => op_geq rfl rfl) (fun h84 => ?_) (fun h84 => ?_)
        ·refine qa 13 ((53, .bool true) :: (52, undef) :: (51, undef) :: (50, undef) :: (49, undef) :: (48, undef) :: (47, .bool true) :: (46, .bool true) :: (45, undef) :: (44, undef) :: (43, undef) :: (42, .bool true) :: (41, .bool true) :: _) rfl ?_
         exact leaf_q (sub_out 21 _ rfl (by kernel_rfl) ⟨(congrArg Value.bool (by rw [decide_eq_false h83, decide_eq_true h84] <;> rfl)), trivial⟩)
        ·refine qa 2 ((42, .bool false) :: (41, .bool false) :: _) rfl ?_
         refine q_ 43 (fun _ _ => oF 1 1 rfl) ?_
         refine q_ 44 (fun _ c1 => oL (c1.cell 0 (u := .int .i64 _) rfl rfl)) ?_
         refine qd 45 (fun _ _ => op_lss rfl rfl) (fun h85 => ?_) (fun h85 => ?_)
         ·refine qa 8 ((53, .bool true) :: (52, undef) :: (51, undef) :: (50, undef) :: (49, undef) :: (48, undef) :: (47, .bool true) :: (46, .bool true) :: _) rfl ?_
          exact leaf_q (sub_out 21 _ rfl (by kernel_rfl) ⟨(congrArg Value.bool (by rw [decide_eq_false h83, decide_eq_false h84, decide_eq_true h85] <;> rfl)), trivial⟩)
         ·refine qa 2 ((47, .bool false) :: (46, .bool false) :: _) rfl ?_
          refine q_ 48 (fun _ _ => oF 1 1 rfl) ?_
          refine q_ 49 (fun _ c1 => oL (c1.cell 0 (u := .int .i64 _) rfl rfl)) ?_
          refine qa 1 ((50, .slice _ _ _) :: _) rfl ?_
          refine q_ 51 (fun _ _ => op_lenN rfl (by kernel_rfl) hz_p0.2.2) ?_
          refine qa 2 ((53, .bool _) :: (52, .bool _) :: _) rfl ?_
          exact leaf_q (sub_out 21 _ rfl (by kernel_rfl) ⟨(congrArg Value.bool (by rw [decide_eq_false h83, decide_eq_false h84, decide_eq_false h85] <;> rfl)), trivial⟩)
      refine xm_next ?_
      refine cm_condB (by kernel_rfl) rfl (fun h86 => ?_) (fun h86 => ?_)
      ·refine sr ?_
       refine la 1 ((6, .int .i64 _) :: _) rfl ?_
       refine nn ?_
       refine cm_ret ?_
       refine xm_thenR ?_
       refine xm_inR ?_
       refine xm_thenR ?_
       refine xm_lret ?_
       refine xm_inR ?_
       refine xm_lret ?_
       exact xm_retT rfl (by kernel_rfl) (show _ = Value.int .i64 _ from rfl) fun w1 c1 => ⟨(), rfl, hsub [] (by kernel_rfl) rfl w1 c1⟩
      ·refine sk ?_
       refine sr ?_
       refine v_ 54 (fun _ _ => oF 2 2 rfl) ?_
       refine v_ 55 (fun _ c1 => oR [.int .i64 _, .int .i64 _] (c1.cells 0 rfl rfl)) ?_
       refine lm_call 56 (V := (fun (r : Bool) (_u : Unit) => .bool r)) (HR := (fun (_r : Bool) (_u : Unit) => [])) (by kernel_rfl) (fun w1 => op_call (by kernel_rfl)) (fun r1 hr1 w1 c1 => m_household_valid_ok N w1 ((ix p2 s78).When)  r1 hr1) ?_
       intro r87 u88
       refine la 1 ((57, .bool _) :: _) rfl ?_
       refine nn ?_
       refine cm_condB (by kernel_rfl) rfl (fun h89 => ?_) (fun h89 => ?_)
       ·refine sr ?_
        refine la 1 ((6, .int .i64 _) :: _) rfl ?_
        refine nn ?_
        refine cm_ret ?_
        refine xm_inR ?_
        refine xm_thenR ?_
        refine xm_lret ?_
        refine xm_inR ?_
        refine xm_lret ?_
        exact xm_retT rfl (by kernel_rfl) (show _ = Value.int .i64 _ from rfl) fun w1 c1 => ⟨(), rfl, hsub [] (by kernel_rfl) rfl w1 c1⟩
       ·refine cm_skip ?_
        refine xm_inN ?_
        refine xm_next ?_
        refine cm_region ?_
        refine lm_ck (fun h90 => ?_)
        refine v_ 58 (fun _ _ => op_add rfl rfl h90) ?_
        refine la 1 ((29, .int .i64 _) :: _) rfl ?_
        refine lm_nil ?_
        exact xm_lnext () sq (sh [])
     ·refine cm_exit ?_
      refine xm_thenE ?_
      refine xm_lexit ?_
      refine xm_here ?_
      exact xm_lnext () sq (sh [])
    intro s50 u51
    refine cm_join (σ := Unit) (ξ := Unit) (fun s121 u122 => []) (fun s121 u122 => []) ?_ ?_
    ·refine sr ?_
     refine la 1 ((59, .slice _ _ _) :: _) rfl ?_
     refine v_ 60 (fun _ _ => op_lenN rfl (by kernel_rfl) hz_p2.2.2) ?_
     refine la 1 ((61, .int .i64 _) :: _) rfl ?_
     refine nn ?_
     refine cm_block ?_
     refine cm_loop (σ := Int) (ξ := Unit) (fun s143 u144 => [(2, .slice A_p2 n_p2 c_p2), (59, .slice A_p2 n_p2 c_p2), (60, .int .i64 (List.length p2 : Int)), (61, .int .i64 s143)]) (fun s143 u144 => []) () ?_ ?_ ?_
     ·exact sq
     ·exact sh []
     intro s143 u144
     refine sr ?_
     refine la 1 ((62, .bool _) :: _) rfl ?_
     refine nn ?_
     refine cm_seq ?_
     refine cm_cond (by kernel_rfl) rfl (fun h145 => ?_) (fun h145 => ?_)
     ·refine sk ?_
      refine cm_seq ?_
      refine cm_block ?_
      refine sr ?_
      refine la 1 ((63, .int .i64 _) :: _) rfl ?_
      refine lm_ck (fun h146 => ?_)
      refine v_ 64 (fun _ c1 => oI 4 rfl rfl ((hr_p2.old c1).addr h146.1 h146.2) hz_p2.2.2 h146) ?_
      refine v_ 65 (fun _ c1 => oR [.int .i64 ((ix p2 s143).Container), .int .i64 ((ix p2 s143).Household), .int .i64 ((ix p2 s143).When.From), .int .i64 ((ix p2 s143).When.To)] ((hr_p2.old c1).row h146.1 h146.2)) ?_
      refine lm_alloc 11 [.int .i64 0, .int .i64 0, .int .i64 0, .int .i64 0] (v := .agg #[.int .i64 0, .int .i64 0, .int .i64 0, .int .i64 0]) (by kernel_rfl) (by kernel_rfl) rfl ?_
      intro b147
      refine la 1 ((10, .int .i64 _) :: _) rfl ?_
      refine lm_storeA 0 [.int .i64 _, .int .i64 _, .int .i64 _, .int .i64 _] [_, _, _, _] (H' := [blkE _ _ [_, _, _, _]]) (by kernel_rfl) rfl rfl (by kernel_rfl) rfl rfl (by kernel_rfl) rfl rfl ?_
      refine nn ?_
      refine sr ?_
      refine v_ 66 (fun _ _ => op_makeFuncC [.pointer (some ⟨_, _, _⟩)] rfl) ?_
      refine la 1 ((12, .func _ _ _) :: _) rfl ?_
      refine nn ?_
      refine sr ?_
      refine la 2 ((68, .int .i64 _) :: (67, .slice _ _ _) :: _) rfl ?_
      refine lm_ck (fun h148 => ?_)
      refine v_ 69 (fun _ _ => op_sliceTo2 (l := p2) rfl rfl (by kernel_rfl) (by kernel_rfl) hz_p2 h148.1 h148.2) ?_
      refine la 1 ((70, .func _ _ _) :: _) rfl ?_
      refine lm_call 71 (V := (fun (r : Bool) (_u : Unit) => .bool r)) (HR := (fun (_r : Bool) (_u : Unit) => [])) (by kernel_rfl) (fun w1 => op_call (by kernel_rfl)) (fun r1 hr1 w1 c1 => m_slices_ContainsFunc_household_Check_1_ok N w1 (List.take (Int.toNat s143) p2) (ix p2 s143) A_p2 (Int.toNat s143) c_p2 b147 ((hr_p2.old c1).take h148.1 h148.2) (hz_p2.take h148.1 h148.2) (c1.blk 0 rfl) r1 hr1) ?_
      intro r149 u150
      refine nn ?_
      refine cm_condB (by kernel_rfl) rfl (fun h151 => ?_) (fun h151 => ?_)
      ·refine sr ?_
       refine la 1 ((6, .int .i64 _) :: _) rfl ?_
       refine nn ?_
       refine cm_ret ?_
       refine xm_inR ?_
       refine xm_thenR ?_
       refine xm_lret ?_
       refine xm_inR ?_
       refine xm_lret ?_
       exact xm_retT rfl (by kernel_rfl) (show _ = Value.int .i64 _ from rfl) fun w1 c1 => ⟨(), rfl, hsub [] (by kernel_rfl) rfl w1 c1⟩
      ·refine cm_skip ?_
       refine xm_inN ?_
       refine xm_next ?_
       refine cm_region ?_
       refine lm_ck (fun h152 => ?_)
       refine v_ 72 (fun _ _ => op_add rfl rfl h152) ?_
       refine la 1 ((61, .int .i64 _) :: _) rfl ?_
       refine lm_nil ?_
       exact xm_lnext () sq (sh [])
     ·refine cm_exit ?_
      refine xm_thenE ?_
      refine xm_lexit ?_
      refine xm_here ?_
      exact xm_lnext () sub_nil (sh [])
    intro s121 u122
    refine sr ?_
    refine la 1 ((6, .int .i64 _) :: _) rfl ?_
    refine nn ?_
    refine cm_ret ?_
    exact xm_retT rfl (by kernel_rfl) (show _ = Value.int .i64 _ from rfl) fun w1 c1 => ⟨(), rfl, hsub [] (by kernel_rfl) rfl w1 c1⟩
end Go.Proofs.YtpbgfdmkebnjgaaGreatDoor
