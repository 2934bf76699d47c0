/- Models of functions, and that the code follows them. Written by deco.py. -/
import Derived.Test.YtbnimhmoffchdaaGreatDoorZP1
namespace Go.Proofs.YtbnimhmoffchdaaGreatDoor
open Go.RowKit
set_option linter.unusedSectionVars false
variable [JF]

/-- ident.letter -/
def m_ident_letter (_N : Nat) (p0 : Int) : Option (Bool) :=
 some ((((decide (97 ≤ p0)) && (decide (p0 ≤ 122))) || ((decide (65 ≤ p0)) && (decide (p0 ≤ 90)))))
set_option maxRecDepth 20000 in
theorem m_ident_letter_ok (N : Nat) (w0 : World) (p0 : Int)   (r : Bool) (hr : m_ident_letter N p0 = some r) :
  Ret Tryz.prog 154 [.int .u8 p0] w0 (fun (r : Bool) (_u : Unit) => .bool r) (fun (_r : Bool) (_u : Unit) => []) r := by
 refine calls_v (n := 17) r hr Tryz.func154 ?_
 unfold m_ident_letter
 refine sr <| la 1 ((2, .bool false) :: _) rfl <| nn <| cm_seq <| cm_cutE [(2, .bool (((decide (97 ≤ p0)) && (decide (p0 ≤ 122))) || ((decide (65 ≤ p0)) && (decide (p0 ≤ 90)))))] ?_ ?_
 ·refine qa 1 ((3, .int .u8 _) :: _) rfl <| qd 4 (fun _ _ => op_geqK rfl rfl) (fun h5 => ?_) (fun h5 => ?_)
  ·refine qa 2 ((6, .int .u8 _) :: (5, .bool true) :: _) rfl <| qd 7 (fun _ _ => op_leqK rfl rfl) (fun h6 => ?_) (fun h6 => ?_)
   ·refine qa 10 ((2, .bool true) :: (16, .bool true) :: (15, undef) :: (14, undef) :: (13, undef) :: (12, undef) :: (11, undef) :: (10, undef) :: (9, .bool true) :: (8, .bool true) :: _) rfl ?_
    exact leaf_q (sub_out 15 _ rfl (by kernel_rfl) ⟨(congrArg Value.bool (by rw [decide_eq_true h5, decide_eq_true h6] <;> rfl)), trivial⟩)
   ·refine qa 3 ((10, .int .u8 _) :: (9, .bool false) :: (8, .bool false) :: _) rfl <| qd 11 (fun _ _ => op_geqK rfl rfl) (fun h7 => ?_) (fun h7 => ?_)
    ·refine qa 2 ((13, .int .u8 _) :: (12, .bool true) :: _) rfl <| q_ 14 (fun _ _ => op_leqK rfl rfl) <| qa 3 ((2, .bool _) :: (16, .bool _) :: (15, .bool _) :: _) rfl ?_
     exact leaf_q (sub_out 15 _ rfl (by kernel_rfl) ⟨(congrArg Value.bool (by rw [decide_eq_true h5, decide_eq_false h6, decide_eq_true h7] <;> rfl)), trivial⟩)
    ·refine qa 6 ((2, .bool false) :: (16, .bool false) :: (15, .bool false) :: (14, undef) :: (13, undef) :: (12, .bool false) :: _) rfl ?_
     exact leaf_q (sub_out 15 _ rfl (by kernel_rfl) ⟨(congrArg Value.bool (by rw [decide_eq_true h5, decide_eq_false h6, decide_eq_false h7] <;> rfl)), trivial⟩)
  ·refine qa 6 ((10, .int .u8 _) :: (9, .bool false) :: (8, .bool false) :: (7, undef) :: (6, undef) :: (5, .bool false) :: _) rfl <| qd 11 (fun _ _ => op_geqK rfl rfl) (fun h8 => ?_) (fun h8 => ?_)
   ·refine qa 2 ((13, .int .u8 _) :: (12, .bool true) :: _) rfl <| q_ 14 (fun _ _ => op_leqK rfl rfl) <| qa 3 ((2, .bool _) :: (16, .bool _) :: (15, .bool _) :: _) rfl ?_
    exact leaf_q (sub_out 15 _ rfl (by kernel_rfl) ⟨(congrArg Value.bool (by rw [decide_eq_false h5, decide_eq_true h8] <;> rfl)), trivial⟩)
   ·refine qa 6 ((2, .bool false) :: (16, .bool false) :: (15, .bool false) :: (14, undef) :: (13, undef) :: (12, .bool false) :: _) rfl ?_
    exact leaf_q (sub_out 15 _ rfl (by kernel_rfl) ⟨(congrArg Value.bool (by rw [decide_eq_false h5, decide_eq_false h8] <;> rfl)), trivial⟩)
 refine xm_next <| cm_ret ?_
 exact xm_retT rfl (by kernel_rfl) (show _ = Value.bool _ from rfl) fun w1 c1 => ⟨(), rfl, hsub [] (by kernel_rfl) rfl w1 c1⟩
/-- ident.Valid -/
def m_ident_Valid (N : Nat) (p0 : ByteArray) : Option (Bool) :=
 ck ((!((decide ((ByteArray.size p0 : Int) < 1)) || (decide (32 < (ByteArray.size p0 : Int))))) = true → (0 : Int) ≤ 0 ∧ 0 < (ByteArray.size p0 : Int)) (
  callIf ((!((decide ((ByteArray.size p0 : Int) < 1)) || (decide (32 < (ByteArray.size p0 : Int))))) = true) (m_ident_letter N (bget p0 (0 : Int))) fun r6 => (if (((decide ((ByteArray.size p0 : Int) < 1)) || (decide (32 < (ByteArray.size p0 : Int)))) || (!r6)) = true then
   some (false)
  else
   (andThen
    (loopM (fun (a : Int) =>
     (if a < (ByteArray.size p0 : Int) then
      ck ((0 : Int) ≤ a ∧ a < (ByteArray.size p0 : Int)) (
       Option.bind (m_ident_letter N (bget p0 a)) fun b => (if (((((!b) && ((decide ((bget p0 a) < 48)) || (decide (57 < (bget p0 a))))) && (decide ((bget p0 a) ≠ 45))) && (decide ((bget p0 a) ≠ 95))) && (decide ((bget p0 a) ≠ 46))) = true then
        some (.done (.done (false)))
       else
        ck (I64 (a + (1 : Int))) (
         some (.next (a + (1 : Int))))))
     else
      some (.done (.next ())))) N (1 : Int))
   fun (_s56 : Unit) =>
    some (true))))
set_option maxHeartbeats 2000000 in
set_option maxRecDepth 20000 in
theorem m_ident_Valid_ok (N : Nat) (w0 : World) (p0 : ByteArray)   (r : Bool) (hr : m_ident_Valid N p0 = some r) :
  Ret Tryz.prog 139 [.string p0] w0 (fun (r : Bool) (_u : Unit) => .bool r) (fun (_r : Bool) (_u : Unit) => []) r := by
 refine calls_v (n := 51) r hr Tryz.func139 ?_
 unfold m_ident_Valid
 refine sr <| la 1 ((2, .bool false) :: _) rfl <| nn <| cm_seq <| cm_seq <| cm_ck (fun h5 => ?_)
 refine cm_callIf fun r6 h7 => cm_cutE [(18, .bool (((decide ((ByteArray.size p0 : Int) < 1)) || (decide (32 < (ByteArray.size p0 : Int)))) || (!r6)))] ?_ ?_
 ·refine qa 1 ((5, .string _) :: _) rfl <| q_ 6 (fun _ _ => op_lenS rfl (by kernel_rfl)) <| qd 7 (fun _ _ => op_lss rfl rfl) (fun h8 => ?_) (fun h8 => ?_)
  ·refine qa 11 ((18, .bool true) :: (17, undef) :: (16, undef) :: (15, undef) :: (14, undef) :: (13, .bool true) :: (12, .bool true) :: (11, undef) :: (10, undef) :: (9, undef) :: (8, .bool true) :: _) rfl ?_
   exact leaf_q (sub_out 14 _ rfl (by kernel_rfl) ⟨(congrArg Value.bool (by rw [decide_eq_true h8] <;> rfl)), trivial⟩)
  ·refine qa 2 ((9, .string _) :: (8, .bool false) :: _) rfl <| q_ 10 (fun _ _ => op_lenS rfl (by kernel_rfl)) <| qd 11 (fun _ _ => op_gtr rfl rfl) (fun h9 => ?_) (fun h9 => ?_)
   ·refine qa 7 ((18, .bool true) :: (17, undef) :: (16, undef) :: (15, undef) :: (14, undef) :: (13, .bool true) :: (12, .bool true) :: _) rfl ?_
    exact leaf_q (sub_out 14 _ rfl (by kernel_rfl) ⟨(congrArg Value.bool (by rw [decide_eq_false h8, decide_eq_true h9] <;> rfl)), trivial⟩)
   ·refine qa 3 ((14, .string _) :: (13, .bool false) :: (12, .bool false) :: _) rfl <| q_ 15 (fun _ _ => op_indexS rfl rfl (by kernel_rfl) (h5 (by rw [decide_eq_false h8, decide_eq_false h9] <;> rfl)).1 (h5 (by rw [decide_eq_false h8, decide_eq_false h9] <;> rfl)).2) <| wq_call 16 (by kernel_rfl) (fun w1 c1 => op_call (by kernel_rfl)) (fun w1 c1 => (m_ident_letter_ok N w1 (bget p0 (0 : Int))  r6 (h7 (by rw [decide_eq_false h8, decide_eq_false h9] <;> rfl))).mono (fun _ _ ⟨_, hx, hu⟩ => ⟨hx, c1.call hu⟩)) <| qa 2 ((18, .bool _) :: (17, .bool _) :: _) rfl ?_
    exact leaf_q (sub_out 14 _ rfl (by kernel_rfl) ⟨(congrArg Value.bool (by rw [decide_eq_false h8, decide_eq_false h9] <;> rfl)), trivial⟩)
 refine xm_next <| cm_condB (by kernel_rfl) rfl (fun y => ?_) (fun y => ?_)
 ·refine sr <| la 1 ((2, .bool false) :: _) rfl <| nn <| cm_ret <| xm_thenR ?_
  exact xm_retT rfl (by kernel_rfl) (show _ = Value.bool false from rfl) fun w1 c1 => ⟨(), rfl, hsub [] (by kernel_rfl) rfl w1 c1⟩
 ·refine sk <| cm_join (σ := Unit) (ξ := Unit) (fun l m => []) (fun l m => []) ?_ ?_
  ·refine sr <| la 1 ((3, .int .i64 _) :: _) rfl <| nn <| cm_block <| cm_loop (σ := Int) (ξ := Unit) (fun a o => [(0, .string p0), (3, .int .i64 a)]) (fun a o => []) () ?_ ?_ ?_
   ·exact sq
   ·exact sh []
   intro a o
   refine cm_seq <| sr <| la 2 ((20, .string _) :: (19, .int .i64 _) :: _) rfl <| v_ 21 (fun _ _ => op_lenS rfl (by kernel_rfl)) <| la 1 ((22, .bool _) :: _) rfl <| nn <| cm_cond (by kernel_rfl) rfl (fun z => ?_) (fun z => ?_)
   ·refine sk <| cm_seq <| cm_block <| sr <| la 2 ((26, .int .i64 _) :: (25, .string _) :: _) rfl <| lm_ck (fun q => ?_)
    refine v_ 27 (fun _ _ => op_indexS rfl rfl (by kernel_rfl) q.1 q.2) <| la 1 ((4, .int .u8 _) :: _) rfl <| nn <| cm_seq <| cm_bind fun t B => cm_cutE [(50, .bool (((((!t) && ((decide ((bget p0 a) < 48)) || (decide (57 < (bget p0 a))))) && (decide ((bget p0 a) ≠ 45))) && (decide ((bget p0 a) ≠ 95))) && (decide ((bget p0 a) ≠ 46))))] ?_ ?_
    ·refine qa 1 ((28, .int .u8 _) :: _) rfl <| wq_callb 29 (by kernel_rfl) (fun w1 c1 => op_call (by kernel_rfl)) (fun w1 c1 => (m_ident_letter_ok N w1 (bget p0 a)  t B).mono (fun _ _ ⟨_, hx, hu⟩ => ⟨hx, c1.call hu⟩)) (fun b => ?_) (fun b => ?_)
     ·refine qa 21 ((50, .bool false) :: (49, undef) :: (48, undef) :: (47, .bool false) :: (46, .bool false) :: (45, undef) :: (44, undef) :: (43, .bool false) :: (42, .bool false) :: (41, undef) :: (40, undef) :: (39, .bool false) :: (38, .bool false) :: (37, undef) :: (36, undef) :: (35, undef) :: (34, undef) :: (33, undef) :: (32, undef) :: (31, .bool false) :: (30, .bool false) :: _) rfl ?_
      exact leaf_q (sub_out 23 _ rfl (by kernel_rfl) ⟨(congrArg Value.bool (by rw [b] <;> rfl)), trivial⟩)
     ·refine qa 3 ((32, .int .u8 _) :: (31, .bool true) :: (30, .bool true) :: _) rfl <| qd 33 (fun _ _ => op_lssK rfl rfl) (fun d => ?_) (fun d => ?_)
      ·refine qa 7 ((40, .int .u8 _) :: (39, .bool true) :: (38, .bool true) :: (37, .bool true) :: (36, undef) :: (35, undef) :: (34, .bool true) :: _) rfl <| qd 41 (fun _ _ => op_neqK rfl rfl) (fun g => ?_) (fun g => ?_)
       ·refine qa 3 ((44, .int .u8 _) :: (43, .bool true) :: (42, .bool true) :: _) rfl <| qd 45 (fun _ _ => op_neqK rfl rfl) (fun j => ?_) (fun j => ?_)
        ·refine qa 3 ((48, .int .u8 _) :: (47, .bool true) :: (46, .bool true) :: _) rfl <| q_ 49 (fun _ _ => op_neqK rfl rfl) <| qa 1 ((50, .bool _) :: _) rfl ?_
         exact leaf_q (sub_out 23 _ rfl (by kernel_rfl) ⟨(congrArg Value.bool (by rw [b, decide_eq_true d, decide_eq_true g, decide_eq_true j] <;> rfl)), trivial⟩)
        ·refine qa 5 ((50, .bool false) :: (49, undef) :: (48, undef) :: (47, .bool false) :: (46, .bool false) :: _) rfl ?_
         exact leaf_q (sub_out 23 _ rfl (by kernel_rfl) ⟨(congrArg Value.bool (by rw [b, decide_eq_true d, decide_eq_true g, decide_eq_false j] <;> rfl)), trivial⟩)
       ·refine qa 9 ((50, .bool false) :: (49, undef) :: (48, undef) :: (47, .bool false) :: (46, .bool false) :: (45, undef) :: (44, undef) :: (43, .bool false) :: (42, .bool false) :: _) rfl ?_
        exact leaf_q (sub_out 23 _ rfl (by kernel_rfl) ⟨(congrArg Value.bool (by rw [b, decide_eq_true d, decide_eq_false g] <;> rfl)), trivial⟩)
      ·refine qa 2 ((35, .int .u8 _) :: (34, .bool false) :: _) rfl <| qd 36 (fun _ _ => op_gtrK rfl rfl) (fun e => ?_) (fun e => ?_)
       ·refine qa 4 ((40, .int .u8 _) :: (39, .bool true) :: (38, .bool true) :: (37, .bool true) :: _) rfl <| qd 41 (fun _ _ => op_neqK rfl rfl) (fun i => ?_) (fun i => ?_)
        ·refine qa 3 ((44, .int .u8 _) :: (43, .bool true) :: (42, .bool true) :: _) rfl <| qd 45 (fun _ _ => op_neqK rfl rfl) (fun f => ?_) (fun f => ?_)
         ·refine qa 3 ((48, .int .u8 _) :: (47, .bool true) :: (46, .bool true) :: _) rfl <| q_ 49 (fun _ _ => op_neqK rfl rfl) <| qa 1 ((50, .bool _) :: _) rfl ?_
          exact leaf_q (sub_out 23 _ rfl (by kernel_rfl) ⟨(congrArg Value.bool (by rw [b, decide_eq_false d, decide_eq_true e, decide_eq_true i, decide_eq_true f] <;> rfl)), trivial⟩)
         ·refine qa 5 ((50, .bool false) :: (49, undef) :: (48, undef) :: (47, .bool false) :: (46, .bool false) :: _) rfl ?_
          exact leaf_q (sub_out 23 _ rfl (by kernel_rfl) ⟨(congrArg Value.bool (by rw [b, decide_eq_false d, decide_eq_true e, decide_eq_true i, decide_eq_false f] <;> rfl)), trivial⟩)
        ·refine qa 9 ((50, .bool false) :: (49, undef) :: (48, undef) :: (47, .bool false) :: (46, .bool false) :: (45, undef) :: (44, undef) :: (43, .bool false) :: (42, .bool false) :: _) rfl ?_
         exact leaf_q (sub_out 23 _ rfl (by kernel_rfl) ⟨(congrArg Value.bool (by rw [b, decide_eq_false d, decide_eq_true e, decide_eq_false i] <;> rfl)), trivial⟩)
       ·refine qa 14 ((50, .bool false) :: (49, undef) :: (48, undef) :: (47, .bool false) :: (46, .bool false) :: (45, undef) :: (44, undef) :: (43, .bool false) :: (42, .bool false) :: (41, undef) :: (40, undef) :: (39, .bool false) :: (38, .bool false) :: (37, .bool false) :: _) rfl ?_
        exact leaf_q (sub_out 23 _ rfl (by kernel_rfl) ⟨(congrArg Value.bool (by rw [b, decide_eq_false d, decide_eq_false e] <;> rfl)), trivial⟩)
    refine xm_next <| cm_condB (by kernel_rfl) rfl (fun v => ?_) (fun v => ?_)
    ·refine sr <| la 1 ((2, .bool false) :: _) rfl <| nn <| cm_ret <| xm_inR <| xm_thenR <| xm_lret <| xm_inR <| xm_lret ?_
     exact xm_retT rfl (by kernel_rfl) (show _ = Value.bool false from rfl) fun w1 c1 => ⟨(), rfl, hsub [] (by kernel_rfl) rfl w1 c1⟩
    ·refine cm_skip <| xm_inN <| xm_next <| cm_region <| la 1 ((23, .int .i64 _) :: _) rfl <| lm_ck (fun x => ?_)
     refine v_ 24 (fun _ _ => op_add rfl rfl x) <| la 1 ((3, .int .i64 _) :: _) rfl <| lm_nil ?_
     exact xm_lnext () sq (sh [])
   ·refine cm_exit <| xm_thenE <| xm_lexit <| xm_here ?_
    exact xm_lnext () sub_nil (sh [])
  intro l m
  refine sr <| la 1 ((2, .bool true) :: _) rfl <| nn <| cm_ret ?_
  exact xm_retT rfl (by kernel_rfl) (show _ = Value.bool true from rfl) fun w1 c1 => ⟨(), rfl, hsub [] (by kernel_rfl) rfl w1 c1⟩
/-- container.check -/
def m_container_check (N : Nat) (p0 : ApiContainer) (p1 : Int) (p2 : Int) : Option (Int) :=
 Option.bind (m_ident_Valid N p0.ID) fun r6 => (if (!r6) = true then
  some ((5 : Int))
 else
  (if ((decide (p0.Kind < 0)) || (decide (p1 ≤ p0.Kind))) = true then
   some ((21 : Int))
  else
   (if ((((decide (p0.Litres < 1)) || (decide (40000 < p0.Litres))) || (decide (p0.Grams < 1))) || (decide (1073741824 < p0.Grams))) = true then
    some ((1 : Int))
   else
    (if ((decide (p0.Node < 0)) || (decide (p2 ≤ p0.Node))) = true then
     some ((7 : Int))
    else
     some ((0 : Int))))))
set_option maxHeartbeats 2000000 in
set_option maxRecDepth 20000 in
theorem m_container_check_ok (N : Nat) (w0 : World) (p0 : ApiContainer) (p1 : Int) (p2 : Int)   (r : Int) (hr : m_container_check N p0 p1 p2 = some r) :
  Ret Tryz.prog 105 [.agg #[.string p0.ID, .int .i64 p0.Kind, .int .i64 p0.Litres, .int .i64 p0.Grams, .int .i64 p0.Node], .int .i64 p1, .int .i64 p2] w0 (fun (r : Int) (_u : Unit) => .int .i64 r) (fun (_r : Int) (_u : Unit) => []) r := by
 refine calls_v (n := 51) r hr Tryz.func105 ?_
 unfold m_container_check
 refine sr <| lm_box 3 [.string _, .int .i64 _, .int .i64 _, .int .i64 _, .int .i64 _] (by kernel_rfl) rfl ?_
 intro b5
 refine la 1 ((6, .int .i64 _) :: _) rfl <| nn <| cm_seq <| cm_block <| sr <| v_ 8 (fun _ _ => oF 0 0 rfl) <| v_ 9 (fun _ c1 => oL (c1.cell 0 (u := .string _) rfl rfl)) <| lm_call 10 (V := (fun (r : Bool) (_u : Unit) => .bool r)) (HR := (fun (_r : Bool) (_u : Unit) => [])) (by kernel_rfl) (fun w1 => op_call (by kernel_rfl)) (fun r1 hr1 w1 c1 => m_ident_Valid_ok N w1 p0.ID  r1 hr1) ?_
 intro r6 u7
 refine la 2 ((7, .bool _) :: (11, .bool _) :: _) rfl <| nn <| cm_condB (by kernel_rfl) rfl (fun h8 => ?_) (fun h8 => ?_)
 ·refine sr <| la 1 ((6, .int .i64 _) :: _) rfl <| nn <| cm_ret <| xm_inR <| xm_thenR ?_
  exact xm_retT rfl (by kernel_rfl) (show _ = Value.int .i64 _ from rfl) fun w1 c1 => ⟨(), rfl, hsub [] (by kernel_rfl) rfl w1 c1⟩
 ·refine cm_seq <| cm_cutE [(12, .bool ((decide (p0.Kind < 0)) || (decide (p1 ≤ p0.Kind))))] ?_ ?_
  ·refine q_ 13 (fun _ _ => oF 1 1 rfl) <| q_ 14 (fun _ c1 => oL (c1.cell 0 (u := .int .i64 _) rfl rfl)) <| qd 15 (fun _ _ => op_lss rfl rfl) (fun h9 => ?_) (fun h9 => ?_)
   ·refine qa 7 ((12, .bool true) :: (21, .bool true) :: (20, undef) :: (19, undef) :: (18, undef) :: (17, undef) :: (16, .bool true) :: _) rfl ?_
    exact leaf_q (sub_out 10 _ rfl (by kernel_rfl) ⟨(congrArg Value.bool (by rw [decide_eq_true h9] <;> rfl)), trivial⟩)
   ·refine qa 1 ((16, .bool false) :: _) rfl <| q_ 17 (fun _ _ => oF 1 1 rfl) <| q_ 18 (fun _ c1 => oL (c1.cell 0 (u := .int .i64 _) rfl rfl)) <| qa 4 ((12, .bool _) :: (21, .bool _) :: (20, .bool _) :: (19, .int .i64 _) :: _) rfl ?_
    exact leaf_q (sub_out 10 _ rfl (by kernel_rfl) ⟨(congrArg Value.bool (by rw [decide_eq_false h9] <;> rfl)), trivial⟩)
  refine xm_next <| cm_condB (by kernel_rfl) rfl (fun f => ?_) (fun f => ?_)
  ·refine sr <| la 1 ((6, .int .i64 _) :: _) rfl <| nn <| cm_ret <| xm_inR <| xm_thenR ?_
   exact xm_retT rfl (by kernel_rfl) (show _ = Value.int .i64 _ from rfl) fun w1 c1 => ⟨(), rfl, hsub [] (by kernel_rfl) rfl w1 c1⟩
  ·refine cm_seq <| cm_cutE [(22, .bool ((((decide (p0.Litres < 1)) || (decide (40000 < p0.Litres))) || (decide (p0.Grams < 1))) || (decide (1073741824 < p0.Grams))))] ?_ ?_
   ·refine q_ 23 (fun _ _ => oF 2 2 rfl) <| q_ 24 (fun _ c1 => oL (c1.cell 0 (u := .int .i64 _) rfl rfl)) <| qd 25 (fun _ _ => op_lss rfl rfl) (fun a => ?_) (fun a => ?_)
    ·refine qa 16 ((22, .bool true) :: (40, .bool true) :: (39, undef) :: (38, undef) :: (37, undef) :: (36, .bool true) :: (35, .bool true) :: (34, undef) :: (33, undef) :: (32, undef) :: (31, .bool true) :: (30, .bool true) :: (29, undef) :: (28, undef) :: (27, undef) :: (26, .bool true) :: _) rfl ?_
     exact leaf_q (sub_out 19 _ rfl (by kernel_rfl) ⟨(congrArg Value.bool (by rw [decide_eq_true a] <;> rfl)), trivial⟩)
    ·refine qa 1 ((26, .bool false) :: _) rfl <| q_ 27 (fun _ _ => oF 2 2 rfl) <| q_ 28 (fun _ c1 => oL (c1.cell 0 (u := .int .i64 _) rfl rfl)) <| qd 29 (fun _ _ => op_gtr rfl rfl) (fun b => ?_) (fun b => ?_)
     ·refine qa 12 ((22, .bool true) :: (40, .bool true) :: (39, undef) :: (38, undef) :: (37, undef) :: (36, .bool true) :: (35, .bool true) :: (34, undef) :: (33, undef) :: (32, undef) :: (31, .bool true) :: (30, .bool true) :: _) rfl ?_
      exact leaf_q (sub_out 19 _ rfl (by kernel_rfl) ⟨(congrArg Value.bool (by rw [decide_eq_false a, decide_eq_true b] <;> rfl)), trivial⟩)
     ·refine qa 2 ((31, .bool false) :: (30, .bool false) :: _) rfl <| q_ 32 (fun _ _ => oF 3 3 rfl) <| q_ 33 (fun _ c1 => oL (c1.cell 0 (u := .int .i64 _) rfl rfl)) <| qd 34 (fun _ _ => op_lss rfl rfl) (fun d => ?_) (fun d => ?_)
      ·refine qa 7 ((22, .bool true) :: (40, .bool true) :: (39, undef) :: (38, undef) :: (37, undef) :: (36, .bool true) :: (35, .bool true) :: _) rfl ?_
       exact leaf_q (sub_out 19 _ rfl (by kernel_rfl) ⟨(congrArg Value.bool (by rw [decide_eq_false a, decide_eq_false b, decide_eq_true d] <;> rfl)), trivial⟩)
      ·refine qa 2 ((36, .bool false) :: (35, .bool false) :: _) rfl <| q_ 37 (fun _ _ => oF 3 3 rfl) <| q_ 38 (fun _ c1 => oL (c1.cell 0 (u := .int .i64 _) rfl rfl)) <| qa 3 ((22, .bool _) :: (40, .bool _) :: (39, .bool _) :: _) rfl ?_
       exact leaf_q (sub_out 19 _ rfl (by kernel_rfl) ⟨(congrArg Value.bool (by rw [decide_eq_false a, decide_eq_false b, decide_eq_false d] <;> rfl)), trivial⟩)
   refine xm_next <| cm_condB (by kernel_rfl) rfl (fun g => ?_) (fun g => ?_)
   ·refine sr <| la 1 ((6, .int .i64 _) :: _) rfl <| nn <| cm_ret <| xm_inR <| xm_thenR ?_
    exact xm_retT rfl (by kernel_rfl) (show _ = Value.int .i64 _ from rfl) fun w1 c1 => ⟨(), rfl, hsub [] (by kernel_rfl) rfl w1 c1⟩
   ·refine cm_seq <| cm_cutE [(41, .bool ((decide (p0.Node < 0)) || (decide (p2 ≤ p0.Node))))] ?_ ?_
    ·refine q_ 42 (fun _ _ => oF 4 4 rfl) <| q_ 43 (fun _ c1 => oL (c1.cell 0 (u := .int .i64 _) rfl rfl)) <| qd 44 (fun _ _ => op_lss rfl rfl) (fun e => ?_) (fun e => ?_)
     ·refine qa 7 ((41, .bool true) :: (50, .bool true) :: (49, undef) :: (48, undef) :: (47, undef) :: (46, undef) :: (45, .bool true) :: _) rfl ?_
      exact leaf_q (sub_out 10 _ rfl (by kernel_rfl) ⟨(congrArg Value.bool (by rw [decide_eq_true e] <;> rfl)), trivial⟩)
     ·refine qa 1 ((45, .bool false) :: _) rfl <| q_ 46 (fun _ _ => oF 4 4 rfl) <| q_ 47 (fun _ c1 => oL (c1.cell 0 (u := .int .i64 _) rfl rfl)) <| qa 4 ((41, .bool _) :: (50, .bool _) :: (49, .bool _) :: (48, .int .i64 _) :: _) rfl ?_
      exact leaf_q (sub_out 10 _ rfl (by kernel_rfl) ⟨(congrArg Value.bool (by rw [decide_eq_false e] <;> rfl)), trivial⟩)
    refine xm_next <| cm_condB (by kernel_rfl) rfl (fun i => ?_) (fun i => ?_)
    ·refine sr <| la 1 ((6, .int .i64 _) :: _) rfl <| nn <| cm_ret <| xm_inR <| xm_thenR ?_
     exact xm_retT rfl (by kernel_rfl) (show _ = Value.int .i64 _ from rfl) fun w1 c1 => ⟨(), rfl, hsub [] (by kernel_rfl) rfl w1 c1⟩
    ·refine cm_skip <| xm_inN <| xm_next <| sr <| la 1 ((6, .int .i64 _) :: _) rfl <| nn <| cm_ret ?_
     exact xm_retT rfl (by kernel_rfl) (show _ = Value.int .i64 _ from rfl) fun w1 c1 => ⟨(), rfl, hsub [] (by kernel_rfl) rfl w1 c1⟩
/-- container.Check -/
def m_container_Check (N : Nat) (p0 : (List ApiContainer)) (p1 : Int) (p2 : Int) : Option (Int) :=
 (if 256 < (List.length p0 : Int) then
  some ((8 : Int))
 else
  (andThen
   (loopM (fun (b : Int) =>
    (if b < (List.length p0 : Int) then
     ck ((0 : Int) ≤ b ∧ b < (List.length p0 : Int)) (
      Option.bind (m_container_check N (ix p0 b) p1 p2) fun d => (if d ≠ 0 then
       some (.done (.done (d)))
      else
       ck (I64 (b + (1 : Int))) (
        some (.next (b + (1 : Int))))))
    else
     some (.done (.next ())))) N (0 : Int))
  fun (_s33 : Unit) =>
   (andThen
    (loopM (fun (a : (List (ByteArray × Bool)) × Int) =>
     (if a.2 < (List.length p0 : Int) then
      ck ((0 : Int) ≤ a.2 ∧ a.2 < (List.length p0 : Int)) (
       ck (ByteArray.size ((ix p0 a.2).ID) ≤ 9223372036854775807) (
        (if (Option.getD (mget a.1 ((ix p0 a.2).ID)) false) = true then
         some (.done (.done ((6 : Int))))
        else
         ck (ByteArray.size ((ix p0 a.2).ID) ≤ 9223372036854775807) (
          ck (I64 (a.2 + (1 : Int))) (
           some (.next ((mput a.1 ((ix p0 a.2).ID) true), (a.2 + (1 : Int)))))))))
     else
      some (.done (.next ())))) N (([] : (List (ByteArray × Bool))), (0 : Int)))
   fun (_s90 : Unit) =>
    some ((0 : Int)))))
set_option maxHeartbeats 2000000 in
set_option maxRecDepth 20000 in
theorem m_container_Check_ok (N : Nat) (w0 : World) (p0 : (List ApiContainer)) (p1 : Int) (p2 : Int) (d : Option Addr) (g : Nat) (i : Nat) (j : RdE w0 5 encApiContainer d p0) (e : SW d g i (List.length p0)) (r : Int) (hr : m_container_Check N p0 p1 p2 = some r) :
  Ret Tryz.prog 54 [.slice d g i, .int .i64 p1, .int .i64 p2] w0 (fun (r : Int) (_u : Unit) => .int .i64 r) (fun (_r : Int) (_u : Unit) => []) r := by
 refine calls_v (n := 45) r hr Tryz.func54 ?_
 unfold m_container_Check
 refine sr <| la 1 ((6, .int .i64 _) :: _) rfl <| nn <| cm_seq <| sr <| la 1 ((13, .slice _ _ _) :: _) rfl <| v_ 14 (fun _ _ => op_lenN rfl (by kernel_rfl) e.2.2) <| la 1 ((15, .bool _) :: _) rfl <| nn <| cm_cond (by kernel_rfl) rfl (fun h5 => ?_) (fun h5 => ?_)
 ·refine sr <| la 1 ((6, .int .i64 _) :: _) rfl <| nn <| cm_ret <| xm_thenR ?_
  exact xm_retT rfl (by kernel_rfl) (show _ = Value.int .i64 _ from rfl) fun w1 c1 => ⟨(), rfl, hsub [] (by kernel_rfl) rfl w1 c1⟩
 ·refine sk <| cm_join (σ := Unit) (ξ := Unit) (fun t x => [(0, .slice d g i)]) (fun t x => []) ?_ ?_
  ·refine sr <| la 1 ((16, .slice _ _ _) :: _) rfl <| v_ 17 (fun _ _ => op_lenN rfl (by kernel_rfl) e.2.2) <| la 1 ((18, .int .i64 _) :: _) rfl <| nn <| cm_block <| cm_loop (σ := Int) (ξ := Unit) (fun f z => [(0, .slice d g i), (1, .int .i64 p1), (2, .int .i64 p2), (16, .slice d g i), (17, .int .i64 (List.length p0 : Int)), (18, .int .i64 f)]) (fun f z => []) () ?_ ?_ ?_
   ·exact sq
   ·exact sh []
   intro f z
   refine sr <| la 1 ((19, .bool _) :: _) rfl <| nn <| cm_seq <| cm_cond (by kernel_rfl) rfl (fun Q => ?_) (fun Q => ?_)
   ·refine sk <| cm_seq <| cm_block <| sr <| lm_ck (fun o => ?_)
    refine v_ 20 (fun _ c1 => oI 5 rfl rfl ((j.old c1).addr o.1 o.2) e.2.2 o) <| v_ 21 (fun _ c1 => oR [.string ((ix p0 f).ID), .int .i64 ((ix p0 f).Kind), .int .i64 ((ix p0 f).Litres), .int .i64 ((ix p0 f).Grams), .int .i64 ((ix p0 f).Node)] ((j.old c1).row o.1 o.2)) <| lm_alloc 8 [.string (⟨#[]⟩ : ByteArray), .int .i64 0, .int .i64 0, .int .i64 0, .int .i64 0] (v := .agg #[.string (⟨#[]⟩ : ByteArray), .int .i64 0, .int .i64 0, .int .i64 0, .int .i64 0]) (by kernel_rfl) (by kernel_rfl) rfl ?_
    intro Z
    refine lm_storeA 0 [.string _, .int .i64 _, .int .i64 _, .int .i64 _, .int .i64 _] [_, _, _, _, _] (H' := [blkE _ _ [_, _, _, _, _]]) (by kernel_rfl) rfl rfl (by kernel_rfl) rfl rfl (by kernel_rfl) rfl rfl <| nn <| sr <| v_ 22 (fun _ c1 => oR [.string _, .int .i64 _, .int .i64 _, .int .i64 _, .int .i64 _] (c1.cells 0 rfl rfl)) <| la 2 ((24, .int .i64 _) :: (23, .int .i64 _) :: _) rfl <| lm_call 25 (V := (fun (r : Int) (_u : Unit) => .int .i64 r)) (HR := (fun (_r : Int) (_u : Unit) => [])) (by kernel_rfl) (fun w1 => op_call (by kernel_rfl)) (fun r1 hr1 w1 c1 => m_container_check_ok N w1 (ix p0 f) p1 p2  r1 hr1) ?_
    intro a0 a1
    refine la 1 ((9, .int .i64 _) :: _) rfl <| nn <| sr <| la 2 ((27, .bool _) :: (26, .int .i64 _) :: _) rfl <| nn <| cm_cond (by kernel_rfl) rfl (fun U => ?_) (fun U => ?_)
    ·refine sr <| la 2 ((6, .int .i64 _) :: (28, .int .i64 _) :: _) rfl <| nn <| cm_ret <| xm_inR <| xm_thenR <| xm_lret <| xm_inR <| xm_lret ?_
     exact xm_retT rfl (by kernel_rfl) (show _ = Value.int .i64 _ from rfl) fun w1 c1 => ⟨(), rfl, hsub [] (by kernel_rfl) rfl w1 c1⟩
    ·refine cm_skip <| xm_inN <| xm_next <| cm_region <| lm_ck (fun X => ?_)
     refine v_ 29 (fun _ _ => op_add rfl rfl X) <| la 1 ((18, .int .i64 _) :: _) rfl <| lm_nil ?_
     exact xm_lnext () sq (sh [])
   ·refine cm_exit <| xm_thenE <| xm_lexit <| xm_here ?_
    exact xm_lnext () sq (sh [])
  intro t x
  refine sr <| lm_makeMap (κ := ByteArray) (α := Bool) 30 9 Value.string Value.bool (by kernel_rfl) ?_
  intro B
  refine la 1 ((10, .map (some _)) :: _) rfl <| nn <| cm_join (σ := Unit) (ξ := Unit) (fun C G => []) (fun C G => []) ?_ ?_
  ·refine sr <| la 1 ((31, .slice _ _ _) :: _) rfl <| v_ 32 (fun _ _ => op_lenN rfl (by kernel_rfl) e.2.2) <| la 1 ((33, .int .i64 _) :: _) rfl <| nn <| cm_block <| cm_loop (σ := (List (ByteArray × Bool)) × Int) (ξ := Unit) (fun b q => [(10, .map (some B)), (31, .slice d g i), (32, .int .i64 (List.length p0 : Int)), (33, .int .i64 b.2)]) (fun b q => [mapE Tryz.prog 9 Value.string Value.bool B b.1]) () ?_ ?_ ?_
   ·exact sq
   ·exact sh [0]
   intro b q
   refine sr <| la 1 ((34, .bool _) :: _) rfl <| nn <| cm_seq <| cm_cond (by kernel_rfl) rfl (fun J => ?_) (fun J => ?_)
   ·refine sk <| cm_seq <| cm_block <| sr <| lm_ck (fun m => ?_)
    refine v_ 35 (fun _ c1 => oI 5 rfl rfl ((j.old c1).addr m.1 m.2) e.2.2 m) <| v_ 36 (fun _ c1 => oR [.string ((ix p0 b.2).ID), .int .i64 ((ix p0 b.2).Kind), .int .i64 ((ix p0 b.2).Litres), .int .i64 ((ix p0 b.2).Grams), .int .i64 ((ix p0 b.2).Node)] ((j.old c1).row m.1 m.2)) <| lm_alloc 12 [.string (⟨#[]⟩ : ByteArray), .int .i64 0, .int .i64 0, .int .i64 0, .int .i64 0] (v := .agg #[.string (⟨#[]⟩ : ByteArray), .int .i64 0, .int .i64 0, .int .i64 0, .int .i64 0]) (by kernel_rfl) (by kernel_rfl) rfl ?_
    intro Y
    refine lm_storeA 0 [.string _, .int .i64 _, .int .i64 _, .int .i64 _, .int .i64 _] [_, _, _, _, _] (H' := [blkE _ _ [_, _, _, _, _], _]) (by kernel_rfl) rfl rfl (by kernel_rfl) rfl rfl (by kernel_rfl) rfl rfl <| nn <| cm_seq <| sr <| la 1 ((37, .map (some _)) :: _) rfl <| v_ 38 (fun _ _ => oF 0 0 rfl) <| v_ 39 (fun _ c1 => oL (c1.cell 0 (u := .string _) rfl rfl)) <| lm_ck (fun K => ?_)
    refine v_ 40 (fun _ c1 => op_lookup (κ := ByteArray) (α := Bool) (ek := Value.string) (ev := Value.bool) (l := b.1) (y := ((ix p0 b.2).ID)) false rfl rfl (Maps.string_keyed Tryz.underlying9) ek_str (key_str Tryz.underlying9 K) Tryz.underlying170 rfl (c1.map 1 rfl)) <| nn <| cm_condB (by kernel_rfl) rfl (fun L => ?_) (fun L => ?_)
    ·refine sr <| la 1 ((6, .int .i64 _) :: _) rfl <| nn <| cm_ret <| xm_thenR <| xm_inR <| xm_thenR <| xm_lret <| xm_inR <| xm_lret ?_
     exact xm_retT rfl (by kernel_rfl) (show _ = Value.int .i64 _ from rfl) fun w1 c1 => ⟨(), rfl, hsub [] (by kernel_rfl) rfl w1 c1⟩
    ·refine sk <| cm_region <| la 1 ((41, .map (some _)) :: _) rfl <| v_ 42 (fun _ _ => oF 0 0 rfl) <| v_ 43 (fun _ c1 => oL (c1.cell 0 (u := .string _) rfl rfl)) <| lm_ck (fun M => ?_)
     refine lm_mapUpdate 1 (κ := ByteArray) (α := Bool) (ek := Value.string) (ev := Value.bool) (l := b.1) (y := ((ix p0 b.2).ID)) (a := true) (by kernel_rfl) rfl rfl rfl (Maps.string_keyed Tryz.underlying9) ek_str (key_str Tryz.underlying9 M) Tryz.underlying170 rfl rfl <| lm_nil <| xm_inN <| xm_next <| cm_region <| lm_ck (fun O => ?_)
     refine v_ 44 (fun _ _ => op_add rfl rfl O) <| la 1 ((33, .int .i64 _) :: _) rfl <| lm_nil ?_
     exact xm_lnext () sq (sh [1])
   ·refine cm_exit <| xm_thenE <| xm_lexit <| xm_here ?_
    exact xm_lnext () sub_nil (sh [])
  intro C G
  refine sr <| la 1 ((6, .int .i64 _) :: _) rfl <| nn <| cm_ret ?_
  exact xm_retT rfl (by kernel_rfl) (show _ = Value.int .i64 _ from rfl) fun w1 c1 => ⟨(), rfl, hsub [] (by kernel_rfl) rfl w1 c1⟩
/-- household.people$1 -/
def m_household_people_1 (_N : Nat) (p0 : ApiHousehold) (q0 : ApiHousehold) : Option (Bool) :=
 some ((decide (p0.ID = q0.ID)))
set_option maxRecDepth 20000 in
theorem m_household_people_1_ok (N : Nat) (w0 : World) (p0 : ApiHousehold) (q0 : ApiHousehold) (a : Nat) (b : Blk w0 a 131 [.string q0.ID, .int .i64 q0.Persons]) (r : Bool) (hr : m_household_people_1 N p0 q0 = some r) :
  Ret Tryz.prog 141 [.agg #[.string p0.ID, .int .i64 p0.Persons], .pointer (some ⟨a, 0, none⟩)] w0 (fun (r : Bool) (_u : Unit) => .bool r) (fun (_r : Bool) (_u : Unit) => []) r := by
 refine calls_v (n := 9) r hr Tryz.func141 ?_
 unfold m_household_people_1
 refine sr <| lm_box 2 [.string _, .int .i64 _] (by kernel_rfl) rfl ?_
 intro b5
 refine la 1 ((3, .bool false) :: _) rfl <| nn <| sr <| v_ 4 (fun _ _ => oF 0 0 rfl) <| v_ 5 (fun _ c1 => oL (c1.cell 0 (u := .string _) rfl rfl)) <| v_ 6 (fun _ _ => oF 0 0 rfl) <| v_ 7 (fun _ c1 => oL (c1.ocell (b.at_ 0 (u := .string _) rfl))) <| v_ 8 (fun _ _ => op_eqlS rfl rfl) <| la 1 ((3, .bool _) :: _) rfl <| nn <| cm_ret ?_
 exact xm_retT rfl (by kernel_rfl) (show _ = Value.bool _ from rfl) fun w1 c1 => ⟨(), rfl, hsub [] (by kernel_rfl) rfl w1 c1⟩
/-- slices.IndexFunc -/
def m_slices_IndexFunc_household_people_1 (N : Nat) (p0 : (List ApiHousehold)) (p1c0 : ApiHousehold) : Option (Int) :=
 (andThen
  (loopM (fun (a : Int) =>
   (if a < (List.length p0 : Int) then
    ck ((0 : Int) ≤ a ∧ a < (List.length p0 : Int)) (
     Option.bind (m_household_people_1 N (ix p0 a) p1c0) fun b => (if b = true then
      some (.done (.done (a)))
     else
      ck (I64 (a + (1 : Int))) (
       some (.next (a + (1 : Int))))))
   else
    some (.done (.next ())))) N (0 : Int))
 fun (_s29 : Unit) =>
  some ((-1 : Int)))
set_option maxRecDepth 20000 in
theorem m_slices_IndexFunc_household_people_1_ok (N : Nat) (w0 : World) (p0 : (List ApiHousehold)) (p1c0 : ApiHousehold) (d : Option Addr) (f : Nat) (g : Nat) (a : Nat) (i : RdE w0 2 encApiHousehold d p0) (j : SW d f g (List.length p0)) (l : Blk w0 a 131 [.string p1c0.ID, .int .i64 p1c0.Persons]) (r : Int) (hr : m_slices_IndexFunc_household_people_1 N p0 p1c0 = some r) :
  Ret Tryz.prog 155 [.slice d f g, .func (.func 141) #[] #[.pointer (some ⟨a, 0, none⟩)]] w0 (fun (r : Int) (_u : Unit) => .int .i64 r) (fun (_r : Int) (_u : Unit) => []) r := by
 refine calls_v (n := 19) r hr Tryz.func155 ?_
 unfold m_slices_IndexFunc_household_people_1
 refine sr <| la 1 ((4, .int .i64 _) :: _) rfl <| nn <| cm_join (σ := Unit) (ξ := Unit) (fun m o => []) (fun m o => []) ?_ ?_
 ·refine sr <| la 1 ((6, .slice _ _ _) :: _) rfl <| v_ 7 (fun _ _ => op_lenN rfl (by kernel_rfl) j.2.2) <| la 1 ((8, .int .i64 _) :: _) rfl <| nn <| cm_block <| cm_loop (σ := Int) (ξ := Unit) (fun b q => [(0, .slice d f g), (1, .func (.func 141) #[] #[.pointer (some ⟨a, 0, none⟩)]), (7, .int .i64 (List.length p0 : Int)), (8, .int .i64 b)]) (fun b q => []) () ?_ ?_ ?_
  ·exact sq
  ·exact sh []
  intro b q
  refine sr <| la 1 ((9, .bool _) :: _) rfl <| nn <| cm_seq <| cm_cond (by kernel_rfl) rfl (fun t => ?_) (fun t => ?_)
  ·refine sk <| cm_seq <| cm_block <| sr <| la 2 ((5, .int .i64 _) :: (10, .int .i64 _) :: _) rfl <| nn <| sr <| la 3 ((13, .int .i64 _) :: (12, .slice _ _ _) :: (11, .func _ _ _) :: _) rfl <| lm_ck (fun e => ?_)
   refine v_ 14 (fun _ c1 => oI 2 rfl rfl ((i.old c1).addr e.1 e.2) j.2.2 e) <| v_ 15 (fun _ c1 => oR [.string ((ix p0 b).ID), .int .i64 ((ix p0 b).Persons)] ((i.old c1).row e.1 e.2)) <| lm_call 16 (V := (fun (r : Bool) (_u : Unit) => .bool r)) (HR := (fun (_r : Bool) (_u : Unit) => [])) (by kernel_rfl) (fun w1 => op_callv rfl (by kernel_rfl)) (fun r1 hr1 w1 c1 => m_household_people_1_ok N w1 (ix p0 b) p1c0 a (c1.oblk l) r1 hr1) ?_
   intro y z
   refine nn <| cm_condB (by kernel_rfl) rfl (fun v => ?_) (fun v => ?_)
   ·refine sr <| la 2 ((4, .int .i64 _) :: (17, .int .i64 _) :: _) rfl <| nn <| cm_ret <| xm_inR <| xm_thenR <| xm_lret <| xm_inR <| xm_lret ?_
    exact xm_retT rfl (by kernel_rfl) (show _ = Value.int .i64 _ from rfl) fun w1 c1 => ⟨(), rfl, hsub [] (by kernel_rfl) rfl w1 c1⟩
   ·refine cm_skip <| xm_inN <| xm_next <| cm_region <| lm_ck (fun x => ?_)
    refine v_ 18 (fun _ _ => op_add rfl rfl x) <| la 1 ((8, .int .i64 _) :: _) rfl <| lm_nil ?_
    exact xm_lnext () sq (sh [])
  ·refine cm_exit <| xm_thenE <| xm_lexit <| xm_here ?_
   exact xm_lnext () sub_nil (sh [])
 intro m o
 refine sr <| la 1 ((4, .int .i64 _) :: _) rfl <| nn <| cm_ret ?_
 exact xm_retT rfl (by kernel_rfl) (show _ = Value.int .i64 _ from rfl) fun w1 c1 => ⟨(), rfl, hsub [] (by kernel_rfl) rfl w1 c1⟩
/-- slices.ContainsFunc -/
def m_slices_ContainsFunc_household_people_1 (N : Nat) (p0 : (List ApiHousehold)) (p1c0 : ApiHousehold) : Option (Bool) :=
 Option.bind (m_slices_IndexFunc_household_people_1 N p0 p1c0) fun r5 => some ((decide (0 ≤ r5)))
set_option maxRecDepth 20000 in
theorem m_slices_ContainsFunc_household_people_1_ok (N : Nat) (w0 : World) (p0 : (List ApiHousehold)) (p1c0 : ApiHousehold) (b : Option Addr) (d : Nat) (e : Nat) (a : Nat) (g : RdE w0 2 encApiHousehold b p0) (i : SW b d e (List.length p0)) (f : Blk w0 a 131 [.string p1c0.ID, .int .i64 p1c0.Persons]) (r : Bool) (hr : m_slices_ContainsFunc_household_people_1 N p0 p1c0 = some r) :
  Ret Tryz.prog 140 [.slice b d e, .func (.func 141) #[] #[.pointer (some ⟨a, 0, none⟩)]] w0 (fun (r : Bool) (_u : Unit) => .bool r) (fun (_r : Bool) (_u : Unit) => []) r := by
 refine calls_v (n := 9) r hr Tryz.func140 ?_
 unfold m_slices_ContainsFunc_household_people_1
 refine sr <| la 1 ((4, .bool false) :: _) rfl <| nn <| sr <| la 2 ((6, .func _ _ _) :: (5, .slice _ _ _) :: _) rfl <| lm_call 7 (V := (fun (r : Int) (_u : Unit) => .int .i64 r)) (HR := (fun (_r : Int) (_u : Unit) => [])) (by kernel_rfl) (fun w1 => op_call (by kernel_rfl)) (fun r1 hr1 w1 c1 => m_slices_IndexFunc_household_people_1_ok N w1 p0 p1c0 b d e a (g.old c1) i (c1.oblk f) r1 hr1) ?_
 intro r5 u6
 refine la 2 ((4, .bool _) :: (8, .bool _) :: _) rfl <| nn <| cm_ret ?_
 exact xm_retT rfl (by kernel_rfl) (show _ = Value.bool _ from rfl) fun w1 c1 => ⟨(), rfl, hsub [] (by kernel_rfl) rfl w1 c1⟩
/-- household.people -/
def m_household_people (N : Nat) (p0 : (List ApiHousehold)) : Option (Int) :=
 (if 256 < (List.length p0 : Int) then
  some ((8 : Int))
 else
  (andThen
   (loopM (fun (b : Int) =>
    (if b < (List.length p0 : Int) then
     ck ((0 : Int) ≤ b ∧ b < (List.length p0 : Int)) (
      Option.bind (m_ident_Valid N ((ix p0 b).ID)) fun e => (if (!e) = true then
       some (.done (.done ((5 : Int))))
      else
       (if ((decide ((ix p0 b).Persons < 1)) || (decide (100 < (ix p0 b).Persons))) = true then
        some (.done (.done ((1 : Int))))
       else
        ck (I64 (b + (1 : Int))) (
         some (.next (b + (1 : Int)))))))
    else
     some (.done (.next ())))) N (0 : Int))
  fun (_s39 : Unit) =>
   (andThen
    (loopM (fun (a : Int) =>
     (if a < (List.length p0 : Int) then
      ck ((0 : Int) ≤ a ∧ a < (List.length p0 : Int)) (
       ck ((0 : Int) ≤ a ∧ a ≤ (List.length p0 : Int)) (
        Option.bind (m_slices_ContainsFunc_household_people_1 N (List.take (Int.toNat a) p0) (ix p0 a)) fun d => (if d = true then
         some (.done (.done ((6 : Int))))
        else
         ck (I64 (a + (1 : Int))) (
          some (.next (a + (1 : Int)))))))
     else
      some (.done (.next ())))) N (0 : Int))
   fun (_s104 : Unit) =>
    some ((0 : Int)))))
set_option maxHeartbeats 2000000 in
set_option maxRecDepth 20000 in
theorem m_household_people_ok (N : Nat) (w0 : World) (p0 : (List ApiHousehold)) (a : Option Addr) (f : Nat) (d : Nat) (g : RdE w0 2 encApiHousehold a p0) (b : SW a f d (List.length p0)) (r : Int) (hr : m_household_people N p0 = some r) :
  Ret Tryz.prog 106 [.slice a f d] w0 (fun (r : Int) (_u : Unit) => .int .i64 r) (fun (_r : Int) (_u : Unit) => []) r := by
 refine calls_v (n := 42) r hr Tryz.func106 ?_
 unfold m_household_people
 refine sr <| la 1 ((2, .int .i64 _) :: _) rfl <| nn <| cm_seq <| sr <| la 1 ((7, .slice _ _ _) :: _) rfl <| v_ 8 (fun _ _ => op_lenN rfl (by kernel_rfl) b.2.2) <| la 1 ((9, .bool _) :: _) rfl <| nn <| cm_cond (by kernel_rfl) rfl (fun h5 => ?_) (fun h5 => ?_)
 ·refine sr <| la 1 ((2, .int .i64 _) :: _) rfl <| nn <| cm_ret <| xm_thenR ?_
  exact xm_retT rfl (by kernel_rfl) (show _ = Value.int .i64 _ from rfl) fun w1 c1 => ⟨(), rfl, hsub [] (by kernel_rfl) rfl w1 c1⟩
 ·refine sk <| cm_join (σ := Unit) (ξ := Unit) (fun z B => [(0, .slice a f d)]) (fun z B => []) ?_ ?_
  ·refine sr <| la 1 ((10, .slice _ _ _) :: _) rfl <| v_ 11 (fun _ _ => op_lenN rfl (by kernel_rfl) b.2.2) <| la 1 ((12, .int .i64 _) :: _) rfl <| nn <| cm_block <| cm_loop (σ := Int) (ξ := Unit) (fun j C => [(0, .slice a f d), (10, .slice a f d), (11, .int .i64 (List.length p0 : Int)), (12, .int .i64 j)]) (fun j C => []) () ?_ ?_ ?_
   ·exact sq
   ·exact sh []
   intro j C
   refine sr <| la 1 ((13, .bool _) :: _) rfl <| nn <| cm_seq <| cm_cond (by kernel_rfl) rfl (fun M => ?_) (fun M => ?_)
   ·refine sk <| cm_seq <| cm_block <| sr <| lm_ck (fun o => ?_)
    refine v_ 14 (fun _ c1 => oI 2 rfl rfl ((g.old c1).addr o.1 o.2) b.2.2 o) <| v_ 15 (fun _ c1 => oR [.string ((ix p0 j).ID), .int .i64 ((ix p0 j).Persons)] ((g.old c1).row o.1 o.2)) <| lm_alloc 4 [.string (⟨#[]⟩ : ByteArray), .int .i64 0] (v := .agg #[.string (⟨#[]⟩ : ByteArray), .int .i64 0]) (by kernel_rfl) (by kernel_rfl) rfl ?_
    intro Z
    refine lm_storeA 0 [.string _, .int .i64 _] [_, _] (H' := [blkE _ _ [_, _]]) (by kernel_rfl) rfl rfl (by kernel_rfl) rfl rfl (by kernel_rfl) rfl rfl <| nn <| cm_seq <| sr <| v_ 16 (fun _ _ => oF 0 0 rfl) <| v_ 17 (fun _ c1 => oL (c1.cell 0 (u := .string _) rfl rfl)) <| lm_call 18 (V := (fun (r : Bool) (_u : Unit) => .bool r)) (HR := (fun (_r : Bool) (_u : Unit) => [])) (by kernel_rfl) (fun w1 => op_call (by kernel_rfl)) (fun r1 hr1 w1 c1 => m_ident_Valid_ok N w1 ((ix p0 j).ID)  r1 hr1) ?_
    intro a0 a1
    refine la 1 ((19, .bool _) :: _) rfl <| nn <| cm_condB (by kernel_rfl) rfl (fun O => ?_) (fun O => ?_)
    ·refine sr <| la 1 ((2, .int .i64 _) :: _) rfl <| nn <| cm_ret <| xm_thenR <| xm_inR <| xm_thenR <| xm_lret <| xm_inR <| xm_lret ?_
     exact xm_retT rfl (by kernel_rfl) (show _ = Value.int .i64 _ from rfl) fun w1 c1 => ⟨(), rfl, hsub [] (by kernel_rfl) rfl w1 c1⟩
    ·refine sk <| cm_seq <| cm_cutE [(27, .bool ((decide ((ix p0 j).Persons < 1)) || (decide (100 < (ix p0 j).Persons))))] ?_ ?_
     ·refine q_ 20 (fun _ _ => oF 1 1 rfl) <| q_ 21 (fun _ c1 => oL (c1.cell 0 (u := .int .i64 _) rfl rfl)) <| qd 22 (fun _ _ => op_lss rfl rfl) (fun q => ?_) (fun q => ?_)
      ·refine qa 5 ((27, .bool true) :: (26, undef) :: (25, undef) :: (24, undef) :: (23, .bool true) :: _) rfl ?_
       exact leaf_q (sub_out 8 _ rfl (by kernel_rfl) ⟨(congrArg Value.bool (by rw [decide_eq_true q] <;> rfl)), trivial⟩)
      ·refine qa 1 ((23, .bool false) :: _) rfl <| q_ 24 (fun _ _ => oF 1 1 rfl) <| q_ 25 (fun _ c1 => oL (c1.cell 0 (u := .int .i64 _) rfl rfl)) <| qa 2 ((27, .bool _) :: (26, .bool _) :: _) rfl ?_
       exact leaf_q (sub_out 8 _ rfl (by kernel_rfl) ⟨(congrArg Value.bool (by rw [decide_eq_false q] <;> rfl)), trivial⟩)
     refine xm_next <| cm_condB (by kernel_rfl) rfl (fun Q => ?_) (fun Q => ?_)
     ·refine sr <| la 1 ((2, .int .i64 _) :: _) rfl <| nn <| cm_ret <| xm_inR <| xm_thenR <| xm_lret <| xm_inR <| xm_lret ?_
      exact xm_retT rfl (by kernel_rfl) (show _ = Value.int .i64 _ from rfl) fun w1 c1 => ⟨(), rfl, hsub [] (by kernel_rfl) rfl w1 c1⟩
     ·refine cm_skip <| xm_inN <| xm_next <| cm_region <| lm_ck (fun U => ?_)
      refine v_ 28 (fun _ _ => op_add rfl rfl U) <| la 1 ((12, .int .i64 _) :: _) rfl <| lm_nil ?_
      exact xm_lnext () sq (sh [])
   ·refine cm_exit <| xm_thenE <| xm_lexit <| xm_here ?_
    exact xm_lnext () sq (sh [])
  intro z B
  refine cm_join (σ := Unit) (ξ := Unit) (fun t x => []) (fun t x => []) ?_ ?_
  ·refine sr <| la 1 ((29, .slice _ _ _) :: _) rfl <| v_ 30 (fun _ _ => op_lenN rfl (by kernel_rfl) b.2.2) <| la 1 ((31, .int .i64 _) :: _) rfl <| nn <| cm_block <| cm_loop (σ := Int) (ξ := Unit) (fun e y => [(0, .slice a f d), (29, .slice a f d), (30, .int .i64 (List.length p0 : Int)), (31, .int .i64 e)]) (fun e y => []) () ?_ ?_ ?_
   ·exact sq
   ·exact sh []
   intro e y
   refine sr <| la 1 ((32, .bool _) :: _) rfl <| nn <| cm_seq <| cm_cond (by kernel_rfl) rfl (fun G => ?_) (fun G => ?_)
   ·refine sk <| cm_seq <| cm_block <| sr <| la 1 ((33, .int .i64 _) :: _) rfl <| lm_ck (fun m => ?_)
    refine v_ 34 (fun _ c1 => oI 2 rfl rfl ((g.old c1).addr m.1 m.2) b.2.2 m) <| v_ 35 (fun _ c1 => oR [.string ((ix p0 e).ID), .int .i64 ((ix p0 e).Persons)] ((g.old c1).row m.1 m.2)) <| lm_alloc 6 [.string (⟨#[]⟩ : ByteArray), .int .i64 0] (v := .agg #[.string (⟨#[]⟩ : ByteArray), .int .i64 0]) (by kernel_rfl) (by kernel_rfl) rfl ?_
    intro J
    refine la 1 ((5, .int .i64 _) :: _) rfl <| lm_storeA 0 [.string _, .int .i64 _] [_, _] (H' := [blkE _ _ [_, _]]) (by kernel_rfl) rfl rfl (by kernel_rfl) rfl rfl (by kernel_rfl) rfl rfl <| nn <| sr <| la 2 ((37, .int .i64 _) :: (36, .slice _ _ _) :: _) rfl <| lm_ck (fun i => ?_)
    refine v_ 38 (fun _ _ => op_sliceTo2 (l := p0) rfl rfl (by kernel_rfl) (by kernel_rfl) b i.1 i.2) <| v_ 39 (fun _ _ => op_makeFuncC [.pointer (some ⟨_, _, _⟩)] rfl) <| lm_call 40 (V := (fun (r : Bool) (_u : Unit) => .bool r)) (HR := (fun (_r : Bool) (_u : Unit) => [])) (by kernel_rfl) (fun w1 => op_call (by kernel_rfl)) (fun r1 hr1 w1 c1 => m_slices_ContainsFunc_household_people_1_ok N w1 (List.take (Int.toNat e) p0) (ix p0 e) a (Int.toNat e) d J ((g.old c1).take i.1 i.2) (b.take i.1 i.2) (c1.blk 0 rfl) r1 hr1) ?_
    intro X Y
    refine nn <| cm_condB (by kernel_rfl) rfl (fun K => ?_) (fun K => ?_)
    ·refine sr <| la 1 ((2, .int .i64 _) :: _) rfl <| nn <| cm_ret <| xm_inR <| xm_thenR <| xm_lret <| xm_inR <| xm_lret ?_
     exact xm_retT rfl (by kernel_rfl) (show _ = Value.int .i64 _ from rfl) fun w1 c1 => ⟨(), rfl, hsub [] (by kernel_rfl) rfl w1 c1⟩
    ·refine cm_skip <| xm_inN <| xm_next <| cm_region <| lm_ck (fun L => ?_)
     refine v_ 41 (fun _ _ => op_add rfl rfl L) <| la 1 ((31, .int .i64 _) :: _) rfl <| lm_nil ?_
     exact xm_lnext () sq (sh [])
   ·refine cm_exit <| xm_thenE <| xm_lexit <| xm_here ?_
    exact xm_lnext () sub_nil (sh [])
  intro t x
  refine sr <| la 1 ((2, .int .i64 _) :: _) rfl <| nn <| cm_ret ?_
  exact xm_retT rfl (by kernel_rfl) (show _ = Value.int .i64 _ from rfl) fun w1 c1 => ⟨(), rfl, hsub [] (by kernel_rfl) rfl w1 c1⟩
/-- household.valid -/
def m_household_valid (_N : Nat) (p0 : ApiWindow) : Option (Bool) :=
 some ((((decide (0 ≤ p0.From)) && (decide (p0.From ≤ p0.To))) && (decide (p0.To ≤ 3155760000))))
set_option maxRecDepth 20000 in
theorem m_household_valid_ok (N : Nat) (w0 : World) (p0 : ApiWindow)   (r : Bool) (hr : m_household_valid N p0 = some r) :
  Ret Tryz.prog 107 [.agg #[.int .i64 p0.From, .int .i64 p0.To]] w0 (fun (r : Bool) (_u : Unit) => .bool r) (fun (_r : Bool) (_u : Unit) => []) r := by
 refine calls_v (n := 18) r hr Tryz.func107 ?_
 unfold m_household_valid
 refine sr <| lm_box 1 [.int .i64 _, .int .i64 _] (by kernel_rfl) rfl ?_
 intro b5
 refine la 1 ((2, .bool false) :: _) rfl <| nn <| cm_seq <| cm_cutE [(2, .bool (((decide (0 ≤ p0.From)) && (decide (p0.From ≤ p0.To))) && (decide (p0.To ≤ 3155760000))))] ?_ ?_
 ·refine q_ 3 (fun _ _ => oF 0 0 rfl) <| q_ 4 (fun _ c1 => oL (c1.cell 0 (u := .int .i64 _) rfl rfl)) <| qd 5 (fun _ _ => op_leq rfl rfl) (fun h6 => ?_) (fun h6 => ?_)
  ·refine qa 1 ((6, .bool true) :: _) rfl <| q_ 7 (fun _ _ => oF 0 0 rfl) <| q_ 8 (fun _ c1 => oL (c1.cell 0 (u := .int .i64 _) rfl rfl)) <| q_ 9 (fun _ _ => oF 1 1 rfl) <| q_ 10 (fun _ c1 => oL (c1.cell 0 (u := .int .i64 _) rfl rfl)) <| qd 11 (fun _ _ => op_leq rfl rfl) (fun h7 => ?_) (fun h7 => ?_)
   ·refine qa 2 ((13, .bool true) :: (12, .bool true) :: _) rfl <| q_ 14 (fun _ _ => oF 1 1 rfl) <| q_ 15 (fun _ c1 => oL (c1.cell 0 (u := .int .i64 _) rfl rfl)) <| qa 3 ((2, .bool _) :: (17, .bool _) :: (16, .bool _) :: _) rfl ?_
    exact leaf_q (sub_out 16 _ rfl (by kernel_rfl) ⟨(congrArg Value.bool (by rw [decide_eq_true h6, decide_eq_true h7] <;> rfl)), trivial⟩)
   ·refine qa 7 ((2, .bool false) :: (17, .bool false) :: (16, undef) :: (15, undef) :: (14, undef) :: (13, .bool false) :: (12, .bool false) :: _) rfl ?_
    exact leaf_q (sub_out 16 _ rfl (by kernel_rfl) ⟨(congrArg Value.bool (by rw [decide_eq_true h6, decide_eq_false h7] <;> rfl)), trivial⟩)
  ·refine qa 13 ((2, .bool false) :: (17, .bool false) :: (16, undef) :: (15, undef) :: (14, undef) :: (13, .bool false) :: (12, .bool false) :: (11, undef) :: (10, undef) :: (9, undef) :: (8, undef) :: (7, undef) :: (6, .bool false) :: _) rfl ?_
   exact leaf_q (sub_out 16 _ rfl (by kernel_rfl) ⟨(congrArg Value.bool (by rw [decide_eq_false h6] <;> rfl)), trivial⟩)
 refine xm_next <| cm_ret ?_
 exact xm_retT rfl (by kernel_rfl) (show _ = Value.bool _ from rfl) fun w1 c1 => ⟨(), rfl, hsub [] (by kernel_rfl) rfl w1 c1⟩
/-- household.common -/
def m_household_common (_N : Nat) (p0 : ApiWindow) (p1 : ApiWindow) : Option (ApiWindow) :=
 some ((ApiWindow.mk (max p0.From p1.From) (min p0.To p1.To)))
set_option maxRecDepth 20000 in
theorem m_household_common_ok (N : Nat) (w0 : World) (p0 : ApiWindow) (p1 : ApiWindow)   (r : ApiWindow) (hr : m_household_common N p0 p1 = some r) :
  Ret Tryz.prog 110 [.agg #[.int .i64 p0.From, .int .i64 p0.To], .agg #[.int .i64 p1.From, .int .i64 p1.To]] w0 (fun (r : ApiWindow) (_u : Unit) => .agg #[.int .i64 r.From, .int .i64 r.To]) (fun (_r : ApiWindow) (_u : Unit) => []) r := by
 refine calls_v (n := 16) r hr Tryz.func110 ?_
 unfold m_household_common
 refine sr <| lm_box 2 [.int .i64 _, .int .i64 _] (by kernel_rfl) rfl ?_
 intro b5
 refine lm_box 3 [.int .i64 _, .int .i64 _] (by kernel_rfl) rfl ?_
 intro b6
 refine lm_alloc 4 [.int .i64 0, .int .i64 0] (v := .agg #[.int .i64 0, .int .i64 0]) (by kernel_rfl) (by kernel_rfl) rfl ?_
 intro b7
 refine nn <| sr <| v_ 5 (fun _ _ => oF 0 0 rfl) <| v_ 6 (fun _ c1 => oL (c1.cell 2 (u := .int .i64 _) rfl rfl)) <| v_ 7 (fun _ _ => oF 0 0 rfl) <| v_ 8 (fun _ c1 => oL (c1.cell 1 (u := .int .i64 _) rfl rfl)) <| v_ 9 (fun _ _ => op_max rfl rfl) <| v_ 10 (fun _ _ => oF 1 1 rfl) <| v_ 11 (fun _ c1 => oL (c1.cell 2 (u := .int .i64 _) rfl rfl)) <| v_ 12 (fun _ _ => oF 1 1 rfl) <| v_ 13 (fun _ c1 => oL (c1.cell 1 (u := .int .i64 _) rfl rfl)) <| v_ 14 (fun _ _ => op_min rfl rfl) ?_
 refine v_ 15 (fun _ _ => op_build (z := [.int .i64 0, .int .i64 0]) (tab := [(0, 1), (1, 1)]) (cs := [.int .i64 _, .int .i64 _]) [(0, [.int .i64 _]), (1, [.int .i64 _])] (by kernel_rfl) (by kernel_rfl) (fillOk_cons rfl rfl rfl (fillOk_cons rfl rfl rfl fillOk_nil)) rfl) <| lm_storeA 0 [.int .i64 _, .int .i64 _] [_, _] (H' := [blkE _ _ [_, _], _, _]) (by kernel_rfl) rfl rfl (by kernel_rfl) rfl rfl (by kernel_rfl) rfl rfl <| nn <| cm_ret ?_
 exact xm_retC rfl (by kernel_rfl) (show _ = Value.pointer (some ⟨_, 0, none⟩) from rfl) (by kernel_rfl) (fun w1 c1 => c1.cells 0 (ds := [.int .i64 _, .int .i64 _]) rfl rfl) fun w1 c1 => ⟨(), rfl, hsub [] (by kernel_rfl) rfl w1 c1⟩
/-- household.empty -/
def m_household_empty (_N : Nat) (p0 : ApiWindow) : Option (Bool) :=
 some ((decide (p0.To ≤ p0.From)))
set_option maxRecDepth 20000 in
theorem m_household_empty_ok (N : Nat) (w0 : World) (p0 : ApiWindow)   (r : Bool) (hr : m_household_empty N p0 = some r) :
  Ret Tryz.prog 109 [.agg #[.int .i64 p0.From, .int .i64 p0.To]] w0 (fun (r : Bool) (_u : Unit) => .bool r) (fun (_r : Bool) (_u : Unit) => []) r := by
 refine calls_v (n := 8) r hr Tryz.func109 ?_
 unfold m_household_empty
 refine sr <| lm_box 1 [.int .i64 _, .int .i64 _] (by kernel_rfl) rfl ?_
 intro b5
 refine la 1 ((2, .bool false) :: _) rfl <| nn <| sr <| v_ 3 (fun _ _ => oF 0 0 rfl) <| v_ 4 (fun _ c1 => oL (c1.cell 0 (u := .int .i64 _) rfl rfl)) <| v_ 5 (fun _ _ => oF 1 1 rfl) <| v_ 6 (fun _ c1 => oL (c1.cell 0 (u := .int .i64 _) rfl rfl)) <| la 2 ((2, .bool _) :: (7, .bool _) :: _) rfl <| nn <| cm_ret ?_
 exact xm_retT rfl (by kernel_rfl) (show _ = Value.bool _ from rfl) fun w1 c1 => ⟨(), rfl, hsub [] (by kernel_rfl) rfl w1 c1⟩
/-- household.Check$1 -/
def m_household_Check_1 (N : Nat) (p0 : ApiAssign) (q0 : ApiAssign) : Option (Bool) :=
 callIf (decide (p0.Container = q0.Container) = true) (m_household_common N q0.When p0.When) fun r6 => callIf (decide (p0.Container = q0.Container) = true) (m_household_empty N r6) fun r8 => some (((decide (p0.Container = q0.Container)) && (!r8)))
set_option maxRecDepth 20000 in
theorem m_household_Check_1_ok (N : Nat) (w0 : World) (p0 : ApiAssign) (q0 : ApiAssign) (d : Nat) (b : Blk w0 d 133 [.int .i64 q0.Container, .int .i64 q0.Household, .int .i64 q0.When.From, .int .i64 q0.When.To]) (r : Bool) (hr : m_household_Check_1 N p0 q0 = some r) :
  Ret Tryz.prog 108 [.agg #[.int .i64 p0.Container, .int .i64 p0.Household, .int .i64 p0.When.From, .int .i64 p0.When.To], .pointer (some ⟨d, 0, none⟩)] w0 (fun (r : Bool) (_u : Unit) => .bool r) (fun (_r : Bool) (_u : Unit) => []) r := by
 refine calls_v (n := 18) r hr Tryz.func108 ?_
 unfold m_household_Check_1
 refine sr <| lm_box 2 [.int .i64 _, .int .i64 _, .int .i64 _, .int .i64 _] (by kernel_rfl) rfl ?_
 intro b5
 refine la 1 ((3, .bool false) :: _) rfl <| nn <| cm_seq <| cm_callIf fun r6 h7 => cm_callIf fun r8 h9 => cm_cutE [(3, .bool ((decide (p0.Container = q0.Container)) && (!r8)))] ?_ ?_
 ·refine q_ 4 (fun _ _ => oF 0 0 rfl) <| q_ 5 (fun _ c1 => oL (c1.cell 0 (u := .int .i64 _) rfl rfl)) <| q_ 6 (fun _ _ => oF 0 0 rfl) <| q_ 7 (fun _ c1 => oL (c1.ocell (b.at_ 0 (u := .int .i64 _) rfl))) <| qd 8 (fun _ _ => op_eql rfl rfl) (fun a => ?_) (fun a => ?_)
  ·refine qa 1 ((9, .bool true) :: _) rfl <| q_ 10 (fun _ _ => oF 2 2 rfl) <| q_ 11 (fun _ c1 => oR [.int .i64 _, .int .i64 _] (c1.ocells b rfl)) <| q_ 12 (fun _ _ => oF 2 2 rfl) <| q_ 13 (fun _ c1 => oR [.int .i64 _, .int .i64 _] (c1.cells 0 rfl rfl)) <| wq_call 14 (by kernel_rfl) (fun w1 c1 => op_call (by kernel_rfl)) (fun w1 c1 => (m_household_common_ok N w1 q0.When p0.When  r6 (h7 (by rw [decide_eq_true a] <;> rfl))).mono (fun _ _ ⟨_, hx, hu⟩ => ⟨hx, c1.call hu⟩)) <| wq_call 15 (by kernel_rfl) (fun w1 c1 => op_call (by kernel_rfl)) (fun w1 c1 => (m_household_empty_ok N w1 r6  r8 (h9 (by rw [decide_eq_true a] <;> rfl))).mono (fun _ _ ⟨_, hx, hu⟩ => ⟨hx, c1.call hu⟩)) <| qa 3 ((3, .bool _) :: (17, .bool _) :: (16, .bool _) :: _) rfl ?_
   exact leaf_q (sub_out 15 _ rfl (by kernel_rfl) ⟨(congrArg Value.bool (by rw [decide_eq_true a] <;> rfl)), trivial⟩)
  ·refine qa 10 ((3, .bool false) :: (17, .bool false) :: (16, undef) :: (15, undef) :: (14, undef) :: (13, undef) :: (12, undef) :: (11, undef) :: (10, undef) :: (9, .bool false) :: _) rfl ?_
   exact leaf_q (sub_out 15 _ rfl (by kernel_rfl) ⟨(congrArg Value.bool (by rw [decide_eq_false a] <;> rfl)), trivial⟩)
 refine xm_next <| cm_ret ?_
 exact xm_retT rfl (by kernel_rfl) (show _ = Value.bool _ from rfl) fun w1 c1 => ⟨(), rfl, hsub [] (by kernel_rfl) rfl w1 c1⟩
/-- slices.IndexFunc -/
def m_slices_IndexFunc_household_Check_1 (N : Nat) (p0 : (List ApiAssign)) (p1c0 : ApiAssign) : Option (Int) :=
 (andThen
  (loopM (fun (a : Int) =>
   (if a < (List.length p0 : Int) then
    ck ((0 : Int) ≤ a ∧ a < (List.length p0 : Int)) (
     Option.bind (m_household_Check_1 N (ix p0 a) p1c0) fun b => (if b = true then
      some (.done (.done (a)))
     else
      ck (I64 (a + (1 : Int))) (
       some (.next (a + (1 : Int))))))
   else
    some (.done (.next ())))) N (0 : Int))
 fun (_s29 : Unit) =>
  some ((-1 : Int)))
set_option maxRecDepth 20000 in
theorem m_slices_IndexFunc_household_Check_1_ok (N : Nat) (w0 : World) (p0 : (List ApiAssign)) (p1c0 : ApiAssign) (d : Option Addr) (f : Nat) (g : Nat) (a : Nat) (i : RdE w0 4 encApiAssign d p0) (j : SW d f g (List.length p0)) (l : Blk w0 a 133 [.int .i64 p1c0.Container, .int .i64 p1c0.Household, .int .i64 p1c0.When.From, .int .i64 p1c0.When.To]) (r : Int) (hr : m_slices_IndexFunc_household_Check_1 N p0 p1c0 = some r) :
  Ret Tryz.prog 142 [.slice d f g, .func (.func 108) #[] #[.pointer (some ⟨a, 0, none⟩)]] w0 (fun (r : Int) (_u : Unit) => .int .i64 r) (fun (_r : Int) (_u : Unit) => []) r := by
 refine calls_v (n := 19) r hr Tryz.func142 ?_
 unfold m_slices_IndexFunc_household_Check_1
 refine sr <| la 1 ((4, .int .i64 _) :: _) rfl <| nn <| cm_join (σ := Unit) (ξ := Unit) (fun m o => []) (fun m o => []) ?_ ?_
 ·refine sr <| la 1 ((6, .slice _ _ _) :: _) rfl <| v_ 7 (fun _ _ => op_lenN rfl (by kernel_rfl) j.2.2) <| la 1 ((8, .int .i64 _) :: _) rfl <| nn <| cm_block <| cm_loop (σ := Int) (ξ := Unit) (fun b q => [(0, .slice d f g), (1, .func (.func 108) #[] #[.pointer (some ⟨a, 0, none⟩)]), (7, .int .i64 (List.length p0 : Int)), (8, .int .i64 b)]) (fun b q => []) () ?_ ?_ ?_
  ·exact sq
  ·exact sh []
  intro b q
  refine sr <| la 1 ((9, .bool _) :: _) rfl <| nn <| cm_seq <| cm_cond (by kernel_rfl) rfl (fun t => ?_) (fun t => ?_)
  ·refine sk <| cm_seq <| cm_block <| sr <| la 2 ((5, .int .i64 _) :: (10, .int .i64 _) :: _) rfl <| nn <| sr <| la 3 ((13, .int .i64 _) :: (12, .slice _ _ _) :: (11, .func _ _ _) :: _) rfl <| lm_ck (fun e => ?_)
   refine v_ 14 (fun _ c1 => oI 4 rfl rfl ((i.old c1).addr e.1 e.2) j.2.2 e) <| v_ 15 (fun _ c1 => oR [.int .i64 ((ix p0 b).Container), .int .i64 ((ix p0 b).Household), .int .i64 ((ix p0 b).When.From), .int .i64 ((ix p0 b).When.To)] ((i.old c1).row e.1 e.2)) <| lm_call 16 (V := (fun (r : Bool) (_u : Unit) => .bool r)) (HR := (fun (_r : Bool) (_u : Unit) => [])) (by kernel_rfl) (fun w1 => op_callv rfl (by kernel_rfl)) (fun r1 hr1 w1 c1 => m_household_Check_1_ok N w1 (ix p0 b) p1c0 a (c1.oblk l) r1 hr1) ?_
   intro y z
   refine nn <| cm_condB (by kernel_rfl) rfl (fun v => ?_) (fun v => ?_)
   ·refine sr <| la 2 ((4, .int .i64 _) :: (17, .int .i64 _) :: _) rfl <| nn <| cm_ret <| xm_inR <| xm_thenR <| xm_lret <| xm_inR <| xm_lret ?_
    exact xm_retT rfl (by kernel_rfl) (show _ = Value.int .i64 _ from rfl) fun w1 c1 => ⟨(), rfl, hsub [] (by kernel_rfl) rfl w1 c1⟩
   ·refine cm_skip <| xm_inN <| xm_next <| cm_region <| lm_ck (fun x => ?_)
    refine v_ 18 (fun _ _ => op_add rfl rfl x) <| la 1 ((8, .int .i64 _) :: _) rfl <| lm_nil ?_
    exact xm_lnext () sq (sh [])
  ·refine cm_exit <| xm_thenE <| xm_lexit <| xm_here ?_
   exact xm_lnext () sub_nil (sh [])
 intro m o
 refine sr <| la 1 ((4, .int .i64 _) :: _) rfl <| nn <| cm_ret ?_
 exact xm_retT rfl (by kernel_rfl) (show _ = Value.int .i64 _ from rfl) fun w1 c1 => ⟨(), rfl, hsub [] (by kernel_rfl) rfl w1 c1⟩
/-- slices.ContainsFunc -/
def m_slices_ContainsFunc_household_Check_1 (N : Nat) (p0 : (List ApiAssign)) (p1c0 : ApiAssign) : Option (Bool) :=
 Option.bind (m_slices_IndexFunc_household_Check_1 N p0 p1c0) fun r5 => some ((decide (0 ≤ r5)))
set_option maxRecDepth 20000 in
theorem m_slices_ContainsFunc_household_Check_1_ok (N : Nat) (w0 : World) (p0 : (List ApiAssign)) (p1c0 : ApiAssign) (b : Option Addr) (d : Nat) (e : Nat) (a : Nat) (g : RdE w0 4 encApiAssign b p0) (i : SW b d e (List.length p0)) (f : Blk w0 a 133 [.int .i64 p1c0.Container, .int .i64 p1c0.Household, .int .i64 p1c0.When.From, .int .i64 p1c0.When.To]) (r : Bool) (hr : m_slices_ContainsFunc_household_Check_1 N p0 p1c0 = some r) :
  Ret Tryz.prog 111 [.slice b d e, .func (.func 108) #[] #[.pointer (some ⟨a, 0, none⟩)]] w0 (fun (r : Bool) (_u : Unit) => .bool r) (fun (_r : Bool) (_u : Unit) => []) r := by
 refine calls_v (n := 9) r hr Tryz.func111 ?_
 unfold m_slices_ContainsFunc_household_Check_1
 refine sr <| la 1 ((4, .bool false) :: _) rfl <| nn <| sr <| la 2 ((6, .func _ _ _) :: (5, .slice _ _ _) :: _) rfl <| lm_call 7 (V := (fun (r : Int) (_u : Unit) => .int .i64 r)) (HR := (fun (_r : Int) (_u : Unit) => [])) (by kernel_rfl) (fun w1 => op_call (by kernel_rfl)) (fun r1 hr1 w1 c1 => m_slices_IndexFunc_household_Check_1_ok N w1 p0 p1c0 b d e a (g.old c1) i (c1.oblk f) r1 hr1) ?_
 intro r5 u6
 refine la 2 ((4, .bool _) :: (8, .bool _) :: _) rfl <| nn <| cm_ret ?_
 exact xm_retT rfl (by kernel_rfl) (show _ = Value.bool _ from rfl) fun w1 c1 => ⟨(), rfl, hsub [] (by kernel_rfl) rfl w1 c1⟩
/-- household.Check -/
def m_household_Check (N : Nat) (p0 : (List ApiHousehold)) (p1 : Int) (p2 : (List ApiAssign)) : Option (Int) :=
 (if ((decide (p1 < 0)) || (decide (256 < p1))) = true then
  some ((1 : Int))
 else
  Option.bind (m_household_people N p0) fun r7 => (if r7 ≠ 0 then
   some (r7)
  else
   (if 512 < (List.length p2 : Int) then
    some ((8 : Int))
   else
    (andThen
     (loopM (fun (b : Int) =>
      (if b < (List.length p2 : Int) then
       ck ((0 : Int) ≤ b ∧ b < (List.length p2 : Int)) (
        (if ((((decide ((ix p2 b).Container < 0)) || (decide (p1 ≤ (ix p2 b).Container))) || (decide ((ix p2 b).Household < 0))) || (decide ((List.length p0 : Int) ≤ (ix p2 b).Household))) = true then
         some (.done (.done ((7 : Int))))
        else
         Option.bind (m_household_valid N ((ix p2 b).When)) fun e => (if (!e) = true then
          some (.done (.done ((1 : Int))))
         else
          ck (I64 (b + (1 : Int))) (
           some (.next (b + (1 : Int)))))))
      else
       some (.done (.next ())))) N (0 : Int))
    fun (_s50 : Unit) =>
     (andThen
      (loopM (fun (a : Int) =>
       (if a < (List.length p2 : Int) then
        ck ((0 : Int) ≤ a ∧ a < (List.length p2 : Int)) (
         ck ((0 : Int) ≤ a ∧ a ≤ (List.length p2 : Int)) (
          Option.bind (m_slices_ContainsFunc_household_Check_1 N (List.take (Int.toNat a) p2) (ix p2 a)) fun d => (if d = true then
           some (.done (.done ((12 : Int))))
          else
           ck (I64 (a + (1 : Int))) (
            some (.next (a + (1 : Int)))))))
       else
        some (.done (.next ())))) N (0 : Int))
     fun (_s121 : Unit) =>
      some ((0 : Int)))))))
set_option maxHeartbeats 2000000 in
set_option maxRecDepth 20000 in
theorem m_household_Check_ok (N : Nat) (w0 : World) (p0 : (List ApiHousehold)) (p1 : Int) (p2 : (List ApiAssign)) (m : Option Addr) (q : Nat) (t : Nat) (b : Option Addr) (g : Nat) (f : Nat) (L : RdE w0 2 encApiHousehold m p0) (z : SW m q t (List.length p0)) (i : RdE w0 4 encApiAssign b p2) (d : SW b g f (List.length p2)) (r : Int) (hr : m_household_Check N p0 p1 p2 = some r) :
  Ret Tryz.prog 55 [.slice m q t, .int .i64 p1, .slice b g f] w0 (fun (r : Int) (_u : Unit) => .int .i64 r) (fun (_r : Int) (_u : Unit) => []) r := by
 refine calls_v (n := 73) r hr Tryz.func55 ?_
 unfold m_household_Check
 refine sr <| la 1 ((6, .int .i64 _) :: _) rfl <| nn <| cm_seq <| cm_seq <| cm_cutE [(18, .bool ((decide (p1 < 0)) || (decide (256 < p1))))] ?_ ?_
 ·refine qa 1 ((13, .int .i64 _) :: _) rfl <| qd 14 (fun _ _ => op_lss rfl rfl) (fun h5 => ?_) (fun h5 => ?_)
  ·refine qa 4 ((18, .bool true) :: (17, undef) :: (16, undef) :: (15, .bool true) :: _) rfl ?_
   exact leaf_q (sub_out 6 _ rfl (by kernel_rfl) ⟨(congrArg Value.bool (by rw [decide_eq_true h5] <;> rfl)), trivial⟩)
  ·refine qa 4 ((18, .bool _) :: (17, .bool _) :: (16, .int .i64 _) :: (15, .bool false) :: _) rfl ?_
   exact leaf_q (sub_out 6 _ rfl (by kernel_rfl) ⟨(congrArg Value.bool (by rw [decide_eq_false h5] <;> rfl)), trivial⟩)
 refine xm_next <| cm_condB (by kernel_rfl) rfl (fun h6 => ?_) (fun h6 => ?_)
 ·refine sr <| la 1 ((6, .int .i64 _) :: _) rfl <| nn <| cm_ret <| xm_thenR ?_
  exact xm_retT rfl (by kernel_rfl) (show _ = Value.int .i64 _ from rfl) fun w1 c1 => ⟨(), rfl, hsub [] (by kernel_rfl) rfl w1 c1⟩
 ·refine sk <| cm_seq <| sr <| la 1 ((19, .slice _ _ _) :: _) rfl <| lm_call 20 (V := (fun (r : Int) (_u : Unit) => .int .i64 r)) (HR := (fun (_r : Int) (_u : Unit) => [])) (by kernel_rfl) (fun w1 => op_call (by kernel_rfl)) (fun r1 hr1 w1 c1 => m_household_people_ok N w1 p0 m q t (L.old c1) z r1 hr1) ?_
  intro r7 u8
  refine la 1 ((7, .int .i64 _) :: _) rfl <| nn <| sr <| la 2 ((22, .bool _) :: (21, .int .i64 _) :: _) rfl <| nn <| cm_cond (by kernel_rfl) rfl (fun h9 => ?_) (fun h9 => ?_)
  ·refine sr <| la 2 ((6, .int .i64 _) :: (23, .int .i64 _) :: _) rfl <| nn <| cm_ret <| xm_thenR ?_
   exact xm_retT rfl (by kernel_rfl) (show _ = Value.int .i64 _ from rfl) fun w1 c1 => ⟨(), rfl, hsub [] (by kernel_rfl) rfl w1 c1⟩
  ·refine sk <| cm_seq <| sr <| la 1 ((24, .slice _ _ _) :: _) rfl <| v_ 25 (fun _ _ => op_lenN rfl (by kernel_rfl) d.2.2) <| la 1 ((26, .bool _) :: _) rfl <| nn <| cm_cond (by kernel_rfl) rfl (fun a0 => ?_) (fun a0 => ?_)
   ·refine sr <| la 1 ((6, .int .i64 _) :: _) rfl <| nn <| cm_ret <| xm_thenR ?_
    exact xm_retT rfl (by kernel_rfl) (show _ = Value.int .i64 _ from rfl) fun w1 c1 => ⟨(), rfl, hsub [] (by kernel_rfl) rfl w1 c1⟩
   ·refine sk <| cm_join (σ := Unit) (ξ := Unit) (fun M O => [(2, .slice b g f)]) (fun M O => []) ?_ ?_
    ·refine sr <| la 1 ((27, .slice _ _ _) :: _) rfl <| v_ 28 (fun _ _ => op_lenN rfl (by kernel_rfl) d.2.2) <| la 1 ((29, .int .i64 _) :: _) rfl <| nn <| cm_block <| cm_loop (σ := Int) (ξ := Unit) (fun e Q => [(0, .slice m q t), (1, .int .i64 p1), (2, .slice b g f), (27, .slice b g f), (28, .int .i64 (List.length p2 : Int)), (29, .int .i64 e)]) (fun e Q => []) () ?_ ?_ ?_
     ·exact sq
     ·exact sh []
     intro e Q
     refine sr <| la 1 ((30, .bool _) :: _) rfl <| nn <| cm_seq <| cm_cond (by kernel_rfl) rfl (fun a1 => ?_) (fun a1 => ?_)
     ·refine sk <| cm_seq <| cm_block <| sr <| lm_ck (fun x => ?_)
      refine v_ 31 (fun _ c1 => oI 4 rfl rfl ((i.old c1).addr x.1 x.2) d.2.2 x) <| v_ 32 (fun _ c1 => oR [.int .i64 ((ix p2 e).Container), .int .i64 ((ix p2 e).Household), .int .i64 ((ix p2 e).When.From), .int .i64 ((ix p2 e).When.To)] ((i.old c1).row x.1 x.2)) <| lm_alloc 9 [.int .i64 0, .int .i64 0, .int .i64 0, .int .i64 0] (v := .agg #[.int .i64 0, .int .i64 0, .int .i64 0, .int .i64 0]) (by kernel_rfl) (by kernel_rfl) rfl ?_
      intro a7
      refine lm_storeA 0 [.int .i64 _, .int .i64 _, .int .i64 _, .int .i64 _] [_, _, _, _] (H' := [blkE _ _ [_, _, _, _]]) (by kernel_rfl) rfl rfl (by kernel_rfl) rfl rfl (by kernel_rfl) rfl rfl <| nn <| cm_seq <| cm_seq <| cm_cutE [(53, .bool ((((decide ((ix p2 e).Container < 0)) || (decide (p1 ≤ (ix p2 e).Container))) || (decide ((ix p2 e).Household < 0))) || (decide ((List.length p0 : Int) ≤ (ix p2 e).Household))))] ?_ ?_
      ·refine q_ 33 (fun _ _ => oF 0 0 rfl) <| q_ 34 (fun _ c1 => oL (c1.cell 0 (u := .int .i64 _) rfl rfl)) <| qd 35 (fun _ _ => op_lss rfl rfl) (fun y => ?_) (fun y => ?_)
       ·refine qa 18 ((53, .bool true) :: (52, undef) :: (51, undef) :: (50, undef) :: (49, undef) :: (48, undef) :: (47, .bool true) :: (46, .bool true) :: (45, undef) :: (44, undef) :: (43, undef) :: (42, .bool true) :: (41, .bool true) :: (40, undef) :: (39, undef) :: (38, undef) :: (37, undef) :: (36, .bool true) :: _) rfl ?_
        exact leaf_q (sub_out 21 _ rfl (by kernel_rfl) ⟨(congrArg Value.bool (by rw [decide_eq_true y] <;> rfl)), trivial⟩)
       ·refine qa 1 ((36, .bool false) :: _) rfl <| q_ 37 (fun _ _ => oF 0 0 rfl) <| q_ 38 (fun _ c1 => oL (c1.cell 0 (u := .int .i64 _) rfl rfl)) <| qa 1 ((39, .int .i64 _) :: _) rfl <| qd 40 (fun _ _ => op_geq rfl rfl) (fun B => ?_) (fun B => ?_)
        ·refine qa 13 ((53, .bool true) :: (52, undef) :: (51, undef) :: (50, undef) :: (49, undef) :: (48, undef) :: (47, .bool true) :: (46, .bool true) :: (45, undef) :: (44, undef) :: (43, undef) :: (42, .bool true) :: (41, .bool true) :: _) rfl ?_
         exact leaf_q (sub_out 21 _ rfl (by kernel_rfl) ⟨(congrArg Value.bool (by rw [decide_eq_false y, decide_eq_true B] <;> rfl)), trivial⟩)
        ·refine qa 2 ((42, .bool false) :: (41, .bool false) :: _) rfl <| q_ 43 (fun _ _ => oF 1 1 rfl) <| q_ 44 (fun _ c1 => oL (c1.cell 0 (u := .int .i64 _) rfl rfl)) <| qd 45 (fun _ _ => op_lss rfl rfl) (fun C => ?_) (fun C => ?_)
         ·refine qa 8 ((53, .bool true) :: (52, undef) :: (51, undef) :: (50, undef) :: (49, undef) :: (48, undef) :: (47, .bool true) :: (46, .bool true) :: _) rfl ?_
          exact leaf_q (sub_out 21 _ rfl (by kernel_rfl) ⟨(congrArg Value.bool (by rw [decide_eq_false y, decide_eq_false B, decide_eq_true C] <;> rfl)), trivial⟩)
         ·refine qa 2 ((47, .bool false) :: (46, .bool false) :: _) rfl <| q_ 48 (fun _ _ => oF 1 1 rfl) <| q_ 49 (fun _ c1 => oL (c1.cell 0 (u := .int .i64 _) rfl rfl)) <| qa 1 ((50, .slice _ _ _) :: _) rfl <| q_ 51 (fun _ _ => op_lenN rfl (by kernel_rfl) z.2.2) <| qa 2 ((53, .bool _) :: (52, .bool _) :: _) rfl ?_
          exact leaf_q (sub_out 21 _ rfl (by kernel_rfl) ⟨(congrArg Value.bool (by rw [decide_eq_false y, decide_eq_false B, decide_eq_false C] <;> rfl)), trivial⟩)
      refine xm_next <| cm_condB (by kernel_rfl) rfl (fun a2 => ?_) (fun a2 => ?_)
      ·refine sr <| la 1 ((6, .int .i64 _) :: _) rfl <| nn <| cm_ret <| xm_thenR <| xm_inR <| xm_thenR <| xm_lret <| xm_inR <| xm_lret ?_
       exact xm_retT rfl (by kernel_rfl) (show _ = Value.int .i64 _ from rfl) fun w1 c1 => ⟨(), rfl, hsub [] (by kernel_rfl) rfl w1 c1⟩
      ·refine sk <| sr <| v_ 54 (fun _ _ => oF 2 2 rfl) <| v_ 55 (fun _ c1 => oR [.int .i64 _, .int .i64 _] (c1.cells 0 rfl rfl)) <| lm_call 56 (V := (fun (r : Bool) (_u : Unit) => .bool r)) (HR := (fun (_r : Bool) (_u : Unit) => [])) (by kernel_rfl) (fun w1 => op_call (by kernel_rfl)) (fun r1 hr1 w1 c1 => m_household_valid_ok N w1 ((ix p2 e).When)  r1 hr1) ?_
       intro a8 a9
       refine la 1 ((57, .bool _) :: _) rfl <| nn <| cm_condB (by kernel_rfl) rfl (fun a3 => ?_) (fun a3 => ?_)
       ·refine sr <| la 1 ((6, .int .i64 _) :: _) rfl <| nn <| cm_ret <| xm_inR <| xm_thenR <| xm_lret <| xm_inR <| xm_lret ?_
        exact xm_retT rfl (by kernel_rfl) (show _ = Value.int .i64 _ from rfl) fun w1 c1 => ⟨(), rfl, hsub [] (by kernel_rfl) rfl w1 c1⟩
       ·refine cm_skip <| xm_inN <| xm_next <| cm_region <| lm_ck (fun a4 => ?_)
        refine v_ 58 (fun _ _ => op_add rfl rfl a4) <| la 1 ((29, .int .i64 _) :: _) rfl <| lm_nil ?_
        exact xm_lnext () sq (sh [])
     ·refine cm_exit <| xm_thenE <| xm_lexit <| xm_here ?_
      exact xm_lnext () sq (sh [])
    intro M O
    refine cm_join (σ := Unit) (ξ := Unit) (fun G J => []) (fun G J => []) ?_ ?_
    ·refine sr <| la 1 ((59, .slice _ _ _) :: _) rfl <| v_ 60 (fun _ _ => op_lenN rfl (by kernel_rfl) d.2.2) <| la 1 ((61, .int .i64 _) :: _) rfl <| nn <| cm_block <| cm_loop (σ := Int) (ξ := Unit) (fun a K => [(2, .slice b g f), (59, .slice b g f), (60, .int .i64 (List.length p2 : Int)), (61, .int .i64 a)]) (fun a K => []) () ?_ ?_ ?_
     ·exact sq
     ·exact sh []
     intro a K
     refine sr <| la 1 ((62, .bool _) :: _) rfl <| nn <| cm_seq <| cm_cond (by kernel_rfl) rfl (fun U => ?_) (fun U => ?_)
     ·refine sk <| cm_seq <| cm_block <| sr <| la 1 ((63, .int .i64 _) :: _) rfl <| lm_ck (fun o => ?_)
      refine v_ 64 (fun _ c1 => oI 4 rfl rfl ((i.old c1).addr o.1 o.2) d.2.2 o) <| v_ 65 (fun _ c1 => oR [.int .i64 ((ix p2 a).Container), .int .i64 ((ix p2 a).Household), .int .i64 ((ix p2 a).When.From), .int .i64 ((ix p2 a).When.To)] ((i.old c1).row o.1 o.2)) <| lm_alloc 11 [.int .i64 0, .int .i64 0, .int .i64 0, .int .i64 0] (v := .agg #[.int .i64 0, .int .i64 0, .int .i64 0, .int .i64 0]) (by kernel_rfl) (by kernel_rfl) rfl ?_
      intro X
      refine la 1 ((10, .int .i64 _) :: _) rfl <| lm_storeA 0 [.int .i64 _, .int .i64 _, .int .i64 _, .int .i64 _] [_, _, _, _] (H' := [blkE _ _ [_, _, _, _]]) (by kernel_rfl) rfl rfl (by kernel_rfl) rfl rfl (by kernel_rfl) rfl rfl <| nn <| sr <| v_ 66 (fun _ _ => op_makeFuncC [.pointer (some ⟨_, _, _⟩)] rfl) <| la 1 ((12, .func _ _ _) :: _) rfl <| nn <| sr <| la 2 ((68, .int .i64 _) :: (67, .slice _ _ _) :: _) rfl <| lm_ck (fun j => ?_)
      refine v_ 69 (fun _ _ => op_sliceTo2 (l := p2) rfl rfl (by kernel_rfl) (by kernel_rfl) d j.1 j.2) <| la 1 ((70, .func _ _ _) :: _) rfl <| lm_call 71 (V := (fun (r : Bool) (_u : Unit) => .bool r)) (HR := (fun (_r : Bool) (_u : Unit) => [])) (by kernel_rfl) (fun w1 => op_call (by kernel_rfl)) (fun r1 hr1 w1 c1 => m_slices_ContainsFunc_household_Check_1_ok N w1 (List.take (Int.toNat a) p2) (ix p2 a) b (Int.toNat a) f X ((i.old c1).take j.1 j.2) (d.take j.1 j.2) (c1.blk 0 rfl) r1 hr1) ?_
      intro a5 a6
      refine nn <| cm_condB (by kernel_rfl) rfl (fun Y => ?_) (fun Y => ?_)
      ·refine sr <| la 1 ((6, .int .i64 _) :: _) rfl <| nn <| cm_ret <| xm_inR <| xm_thenR <| xm_lret <| xm_inR <| xm_lret ?_
       exact xm_retT rfl (by kernel_rfl) (show _ = Value.int .i64 _ from rfl) fun w1 c1 => ⟨(), rfl, hsub [] (by kernel_rfl) rfl w1 c1⟩
      ·refine cm_skip <| xm_inN <| xm_next <| cm_region <| lm_ck (fun Z => ?_)
       refine v_ 72 (fun _ _ => op_add rfl rfl Z) <| la 1 ((61, .int .i64 _) :: _) rfl <| lm_nil ?_
       exact xm_lnext () sq (sh [])
     ·refine cm_exit <| xm_thenE <| xm_lexit <| xm_here ?_
      exact xm_lnext () sub_nil (sh [])
    intro G J
    refine sr <| la 1 ((6, .int .i64 _) :: _) rfl <| nn <| cm_ret ?_
    exact xm_retT rfl (by kernel_rfl) (show _ = Value.int .i64 _ from rfl) fun w1 c1 => ⟨(), rfl, hsub [] (by kernel_rfl) rfl w1 c1⟩
end Go.Proofs.YtbnimhmoffchdaaGreatDoor
