/- Models of functions, and that the code follows them. Written by deco.py. -/
import Derived.Test.YtkepegnnkmmefaaDSort1
import Derived.Test.YtkepegnnkmmefaaDFull
import Derived.Test.YtkepegnnkmmefaaShelf
namespace Go.Proofs.Ytkepegnnkmmefaa
open Go.RowKit

structure ApiSpan where
  Lo : Int
  Hi : Int
deriving DecidableEq, Inhabited
def encApiSpan (x : ApiSpan) : List Value := [.int .i64 x.Lo, .int .i64 x.Hi]
def valApiSpan (x : ApiSpan) : Value := .agg #[.int .i64 x.Lo, .int .i64 x.Hi]
theorem encApiSpan_len (x : ApiSpan) : (encApiSpan x).length = 2 := rfl
theorem encApiSpan_one (x : ApiSpan) : (encApiSpan x).all Value.oneCell' = true := rfl
structure ApiEmptying where
  ID : Int
  Container : Int
  Vehicle : Int
  At : Int
  Mass : ApiSpan
  Void : Bool
deriving DecidableEq, Inhabited
def encApiEmptying (x : ApiEmptying) : List Value := [.int .i64 x.ID, .int .i64 x.Container, .int .i64 x.Vehicle, .int .i64 x.At, .int .i64 x.Mass.Lo, .int .i64 x.Mass.Hi, .bool x.Void]
def valApiEmptying (x : ApiEmptying) : Value := .agg #[.int .i64 x.ID, .int .i64 x.Container, .int .i64 x.Vehicle, .int .i64 x.At, .int .i64 x.Mass.Lo, .int .i64 x.Mass.Hi, .bool x.Void]
theorem encApiEmptying_len (x : ApiEmptying) : (encApiEmptying x).length = 7 := rfl
theorem encApiEmptying_one (x : ApiEmptying) : (encApiEmptying x).all Value.oneCell' = true := rfl
structure ApiWindow where
  From : Int
  To : Int
deriving DecidableEq, Inhabited
def encApiWindow (x : ApiWindow) : List Value := [.int .i64 x.From, .int .i64 x.To]
def valApiWindow (x : ApiWindow) : Value := .agg #[.int .i64 x.From, .int .i64 x.To]
theorem encApiWindow_len (x : ApiWindow) : (encApiWindow x).length = 2 := rfl
theorem encApiWindow_one (x : ApiWindow) : (encApiWindow x).all Value.oneCell' = true := rfl
structure ApiAssign where
  Container : Int
  Household : Int
  When : ApiWindow
deriving DecidableEq, Inhabited
def encApiAssign (x : ApiAssign) : List Value := [.int .i64 x.Container, .int .i64 x.Household, .int .i64 x.When.From, .int .i64 x.When.To]
def valApiAssign (x : ApiAssign) : Value := .agg #[.int .i64 x.Container, .int .i64 x.Household, .int .i64 x.When.From, .int .i64 x.When.To]
theorem encApiAssign_len (x : ApiAssign) : (encApiAssign x).length = 4 := rfl
theorem encApiAssign_one (x : ApiAssign) : (encApiAssign x).all Value.oneCell' = true := rfl
structure Recyclinglaw18Ask where
  Household : Int
  When : ApiWindow
  Gap : Int
deriving DecidableEq, Inhabited
def encRecyclinglaw18Ask (x : Recyclinglaw18Ask) : List Value := [.int .i64 x.Household, .int .i64 x.When.From, .int .i64 x.When.To, .int .i64 x.Gap]
def valRecyclinglaw18Ask (x : Recyclinglaw18Ask) : Value := .agg #[.int .i64 x.Household, .int .i64 x.When.From, .int .i64 x.When.To, .int .i64 x.Gap]
theorem encRecyclinglaw18Ask_len (x : Recyclinglaw18Ask) : (encRecyclinglaw18Ask x).length = 4 := rfl
theorem encRecyclinglaw18Ask_one (x : Recyclinglaw18Ask) : (encRecyclinglaw18Ask x).all Value.oneCell' = true := rfl
/-- recyclingref18.fault -/
def m_recyclingref18_fault (_N : Nat) (p0 : ApiEmptying) (p1 : Int) (p2 : Int) : Option (Int) :=
  (if ((decide (p0.ID < 1)) || (decide (1000000 < p0.ID))) = true then
    some ((1 : Int))
  else
    (if ((decide (p0.Container < 0)) || (decide (p1 ≤ p0.Container))) = true then
      some ((7 : Int))
    else
      (if ((decide (p0.Vehicle < 0)) || (decide (p2 ≤ p0.Vehicle))) = true then
        some ((7 : Int))
      else
        (if ((decide (p0.At < 0)) || (decide (3155759999 < p0.At))) = true then
          some ((1 : Int))
        else
          (if (((decide (p0.Mass.Lo < 0)) || (decide (p0.Mass.Hi < p0.Mass.Lo))) || (decide (1073741824 < p0.Mass.Hi))) = true then
            some ((1 : Int))
          else
            some ((0 : Int)))))))
set_option maxRecDepth 20000 in
theorem m_recyclingref18_fault_ok (N : Nat) (w0 : World) (p0 : ApiEmptying) (p1 : Int) (p2 : Int)   (r : Int) (hr : m_recyclingref18_fault N p0 p1 p2 = some r) :
    Calls Try.prog 24 [.agg #[.int .i64 p0.ID, .int .i64 p0.Container, .int .i64 p0.Vehicle, .int .i64 p0.At, .int .i64 p0.Mass.Lo, .int .i64 p0.Mass.Hi, .bool p0.Void], .int .i64 p1, .int .i64 p2].toArray w0 fun x w1 => ∃ u, x = .returned ((fun (r : Int) (_u : Unit) => .int .i64 r) r u) ∧ Hs w0 ((fun (_r : Int) (_u : Unit) => []) r u) w1 := by
  refine calls_cm (n := 60) (R := fun r x w1 => ∃ u, x = .returned ((fun (r : Int) (_u : Unit) => .int .i64 r) r u) ∧ Hs w0 ((fun (_r : Int) (_u : Unit) => []) r u) w1) Try.func24 rfl rfl (Nat.le_of_ble_eq_true rfl) ?_ r hr
  unfold m_recyclingref18_fault
  refine cm_seq ?_
  refine cm_region ?_
  refine lm_box 3 [.int .i64 _, .int .i64 _, .int .i64 _, .int .i64 _, .int .i64 _, .int .i64 _, .bool _] (by kernel_rfl) rfl ?_
  intro b1
  refine lm_val 6 (by kernel_rfl) (fun w1 c1 => (op_assign (v := .int .i64 _) rfl)) ?_
  refine lm_nil ?_
  refine xm_next ?_
  refine cm_seq ?_
  refine cm_seq ?_
  refine cm_cutE [(14, .bool ((decide (p0.ID < 1)) || (decide (1000000 < p0.ID))))] ?_ ?_
  · skip
    refine wq_val 7 (by kernel_rfl) (fun w1 c1 => (op_fieldL (m := 0) (k := 0) rfl (by kernel_rfl) rfl)) ?_
    refine wq_val 8 (by kernel_rfl) (fun w1 c1 => (op_load rfl (by kernel_rfl) (c1.cell 0 (u := .int .i64 _) rfl rfl))) ?_
    refine wq_dec 9 (by kernel_rfl) (fun w1 c1 => (op_lss rfl rfl)) (fun h2 => ?_) (fun h2 => ?_)
    · skip
      refine wq_val 10 (by kernel_rfl) (fun w1 c1 => (op_move (v := .bool true) rfl)) ?_
      refine wq_skip 11 (by kernel_rfl) ?_
      refine wq_skip 12 (by kernel_rfl) ?_
      refine wq_skip 13 (by kernel_rfl) ?_
      refine wq_val 14 (by kernel_rfl) (fun w1 c1 => (op_pick_t (v := .bool true) rfl rfl)) ?_
      exact leaf_q (sub_out 8 _ rfl (by kernel_rfl) ⟨(congrArg Value.bool (by rw [decide_eq_true h2] <;> rfl)), trivial⟩)
    · skip
      refine wq_val 10 (by kernel_rfl) (fun w1 c1 => (op_move (v := .bool false) rfl)) ?_
      refine wq_val 11 (by kernel_rfl) (fun w1 c1 => (op_fieldL (m := 0) (k := 0) rfl (by kernel_rfl) rfl)) ?_
      refine wq_val 12 (by kernel_rfl) (fun w1 c1 => (op_load rfl (by kernel_rfl) (c1.cell 0 (u := .int .i64 _) rfl rfl))) ?_
      refine wq_val 13 (by kernel_rfl) (fun w1 c1 => (op_gtr rfl rfl)) ?_
      refine wq_val 14 (by kernel_rfl) (fun w1 c1 => (op_pick_f (v := .bool _) rfl rfl)) ?_
      exact leaf_q (sub_out 8 _ rfl (by kernel_rfl) ⟨(congrArg Value.bool (by rw [decide_eq_false h2] <;> rfl)), trivial⟩)
  refine xm_next ?_
  refine cm_condB (by kernel_rfl) rfl (fun h3 => ?_) (fun h3 => ?_)
  · skip
    refine cm_seq ?_
    refine cm_region ?_
    refine lm_val 6 (by kernel_rfl) (fun w1 c1 => (op_assign (v := .int .i64 _) rfl)) ?_
    refine lm_nil ?_
    refine xm_next ?_
    refine cm_ret ?_
    refine xm_thenR ?_
    exact xm_retT rfl (by kernel_rfl) (show _ = Value.int .i64 _ from rfl) fun w1 c1 => ⟨(), rfl, hsub [] (by kernel_rfl) rfl w1 c1⟩
  · skip
    refine cm_skip ?_
    refine xm_next ?_
    refine cm_seq ?_
    refine cm_seq ?_
    refine cm_cutE [(23, .bool ((decide (p0.Container < 0)) || (decide (p1 ≤ p0.Container))))] ?_ ?_
    · skip
      refine wq_val 15 (by kernel_rfl) (fun w1 c1 => (op_fieldL (m := 1) (k := 1) rfl (by kernel_rfl) rfl)) ?_
      refine wq_val 16 (by kernel_rfl) (fun w1 c1 => (op_load rfl (by kernel_rfl) (c1.cell 0 (u := .int .i64 _) rfl rfl))) ?_
      refine wq_dec 17 (by kernel_rfl) (fun w1 c1 => (op_lss rfl rfl)) (fun h4 => ?_) (fun h4 => ?_)
      · skip
        refine wq_val 18 (by kernel_rfl) (fun w1 c1 => (op_move (v := .bool true) rfl)) ?_
        refine wq_skip 19 (by kernel_rfl) ?_
        refine wq_skip 20 (by kernel_rfl) ?_
        refine wq_skip 21 (by kernel_rfl) ?_
        refine wq_skip 22 (by kernel_rfl) ?_
        refine wq_val 23 (by kernel_rfl) (fun w1 c1 => (op_pick_t (v := .bool true) rfl rfl)) ?_
        exact leaf_q (sub_out 9 _ rfl (by kernel_rfl) ⟨(congrArg Value.bool (by rw [decide_eq_true h4] <;> rfl)), trivial⟩)
      · skip
        refine wq_val 18 (by kernel_rfl) (fun w1 c1 => (op_move (v := .bool false) rfl)) ?_
        refine wq_val 19 (by kernel_rfl) (fun w1 c1 => (op_fieldL (m := 1) (k := 1) rfl (by kernel_rfl) rfl)) ?_
        refine wq_val 20 (by kernel_rfl) (fun w1 c1 => (op_load rfl (by kernel_rfl) (c1.cell 0 (u := .int .i64 _) rfl rfl))) ?_
        refine wq_val 21 (by kernel_rfl) (fun w1 c1 => (op_move (v := .int .i64 _) rfl)) ?_
        refine wq_val 22 (by kernel_rfl) (fun w1 c1 => (op_geq rfl rfl)) ?_
        refine wq_val 23 (by kernel_rfl) (fun w1 c1 => (op_pick_f (v := .bool _) rfl rfl)) ?_
        exact leaf_q (sub_out 9 _ rfl (by kernel_rfl) ⟨(congrArg Value.bool (by rw [decide_eq_false h4] <;> rfl)), trivial⟩)
    refine xm_next ?_
    refine cm_condB (by kernel_rfl) rfl (fun h5 => ?_) (fun h5 => ?_)
    · skip
      refine cm_seq ?_
      refine cm_region ?_
      refine lm_val 6 (by kernel_rfl) (fun w1 c1 => (op_assign (v := .int .i64 _) rfl)) ?_
      refine lm_nil ?_
      refine xm_next ?_
      refine cm_ret ?_
      refine xm_thenR ?_
      exact xm_retT rfl (by kernel_rfl) (show _ = Value.int .i64 _ from rfl) fun w1 c1 => ⟨(), rfl, hsub [] (by kernel_rfl) rfl w1 c1⟩
    · skip
      refine cm_skip ?_
      refine xm_next ?_
      refine cm_seq ?_
      refine cm_seq ?_
      refine cm_cutE [(32, .bool ((decide (p0.Vehicle < 0)) || (decide (p2 ≤ p0.Vehicle))))] ?_ ?_
      · skip
        refine wq_val 24 (by kernel_rfl) (fun w1 c1 => (op_fieldL (m := 2) (k := 2) rfl (by kernel_rfl) rfl)) ?_
        refine wq_val 25 (by kernel_rfl) (fun w1 c1 => (op_load rfl (by kernel_rfl) (c1.cell 0 (u := .int .i64 _) rfl rfl))) ?_
        refine wq_dec 26 (by kernel_rfl) (fun w1 c1 => (op_lss rfl rfl)) (fun h6 => ?_) (fun h6 => ?_)
        · skip
          refine wq_val 27 (by kernel_rfl) (fun w1 c1 => (op_move (v := .bool true) rfl)) ?_
          refine wq_skip 28 (by kernel_rfl) ?_
          refine wq_skip 29 (by kernel_rfl) ?_
          refine wq_skip 30 (by kernel_rfl) ?_
          refine wq_skip 31 (by kernel_rfl) ?_
          refine wq_val 32 (by kernel_rfl) (fun w1 c1 => (op_pick_t (v := .bool true) rfl rfl)) ?_
          exact leaf_q (sub_out 9 _ rfl (by kernel_rfl) ⟨(congrArg Value.bool (by rw [decide_eq_true h6] <;> rfl)), trivial⟩)
        · skip
          refine wq_val 27 (by kernel_rfl) (fun w1 c1 => (op_move (v := .bool false) rfl)) ?_
          refine wq_val 28 (by kernel_rfl) (fun w1 c1 => (op_fieldL (m := 2) (k := 2) rfl (by kernel_rfl) rfl)) ?_
          refine wq_val 29 (by kernel_rfl) (fun w1 c1 => (op_load rfl (by kernel_rfl) (c1.cell 0 (u := .int .i64 _) rfl rfl))) ?_
          refine wq_val 30 (by kernel_rfl) (fun w1 c1 => (op_move (v := .int .i64 _) rfl)) ?_
          refine wq_val 31 (by kernel_rfl) (fun w1 c1 => (op_geq rfl rfl)) ?_
          refine wq_val 32 (by kernel_rfl) (fun w1 c1 => (op_pick_f (v := .bool _) rfl rfl)) ?_
          exact leaf_q (sub_out 9 _ rfl (by kernel_rfl) ⟨(congrArg Value.bool (by rw [decide_eq_false h6] <;> rfl)), trivial⟩)
      refine xm_next ?_
      refine cm_condB (by kernel_rfl) rfl (fun h7 => ?_) (fun h7 => ?_)
      · skip
        refine cm_seq ?_
        refine cm_region ?_
        refine lm_val 6 (by kernel_rfl) (fun w1 c1 => (op_assign (v := .int .i64 _) rfl)) ?_
        refine lm_nil ?_
        refine xm_next ?_
        refine cm_ret ?_
        refine xm_thenR ?_
        exact xm_retT rfl (by kernel_rfl) (show _ = Value.int .i64 _ from rfl) fun w1 c1 => ⟨(), rfl, hsub [] (by kernel_rfl) rfl w1 c1⟩
      · skip
        refine cm_skip ?_
        refine xm_next ?_
        refine cm_seq ?_
        refine cm_seq ?_
        refine cm_cutE [(40, .bool ((decide (p0.At < 0)) || (decide (3155759999 < p0.At))))] ?_ ?_
        · skip
          refine wq_val 33 (by kernel_rfl) (fun w1 c1 => (op_fieldL (m := 3) (k := 3) rfl (by kernel_rfl) rfl)) ?_
          refine wq_val 34 (by kernel_rfl) (fun w1 c1 => (op_load rfl (by kernel_rfl) (c1.cell 0 (u := .int .i64 _) rfl rfl))) ?_
          refine wq_dec 35 (by kernel_rfl) (fun w1 c1 => (op_lss rfl rfl)) (fun h8 => ?_) (fun h8 => ?_)
          · skip
            refine wq_val 36 (by kernel_rfl) (fun w1 c1 => (op_move (v := .bool true) rfl)) ?_
            refine wq_skip 37 (by kernel_rfl) ?_
            refine wq_skip 38 (by kernel_rfl) ?_
            refine wq_skip 39 (by kernel_rfl) ?_
            refine wq_val 40 (by kernel_rfl) (fun w1 c1 => (op_pick_t (v := .bool true) rfl rfl)) ?_
            exact leaf_q (sub_out 8 _ rfl (by kernel_rfl) ⟨(congrArg Value.bool (by rw [decide_eq_true h8] <;> rfl)), trivial⟩)
          · skip
            refine wq_val 36 (by kernel_rfl) (fun w1 c1 => (op_move (v := .bool false) rfl)) ?_
            refine wq_val 37 (by kernel_rfl) (fun w1 c1 => (op_fieldL (m := 3) (k := 3) rfl (by kernel_rfl) rfl)) ?_
            refine wq_val 38 (by kernel_rfl) (fun w1 c1 => (op_load rfl (by kernel_rfl) (c1.cell 0 (u := .int .i64 _) rfl rfl))) ?_
            refine wq_val 39 (by kernel_rfl) (fun w1 c1 => (op_gtr rfl rfl)) ?_
            refine wq_val 40 (by kernel_rfl) (fun w1 c1 => (op_pick_f (v := .bool _) rfl rfl)) ?_
            exact leaf_q (sub_out 8 _ rfl (by kernel_rfl) ⟨(congrArg Value.bool (by rw [decide_eq_false h8] <;> rfl)), trivial⟩)
        refine xm_next ?_
        refine cm_condB (by kernel_rfl) rfl (fun h9 => ?_) (fun h9 => ?_)
        · skip
          refine cm_seq ?_
          refine cm_region ?_
          refine lm_val 6 (by kernel_rfl) (fun w1 c1 => (op_assign (v := .int .i64 _) rfl)) ?_
          refine lm_nil ?_
          refine xm_next ?_
          refine cm_ret ?_
          refine xm_thenR ?_
          exact xm_retT rfl (by kernel_rfl) (show _ = Value.int .i64 _ from rfl) fun w1 c1 => ⟨(), rfl, hsub [] (by kernel_rfl) rfl w1 c1⟩
        · skip
          refine cm_skip ?_
          refine xm_next ?_
          refine cm_seq ?_
          refine cm_seq ?_
          refine cm_cutE [(59, .bool (((decide (p0.Mass.Lo < 0)) || (decide (p0.Mass.Hi < p0.Mass.Lo))) || (decide (1073741824 < p0.Mass.Hi))))] ?_ ?_
          · skip
            refine wq_val 41 (by kernel_rfl) (fun w1 c1 => (op_fieldL (m := 4) (k := 4) rfl (by kernel_rfl) rfl)) ?_
            refine wq_val 42 (by kernel_rfl) (fun w1 c1 => (op_fieldL (m := 0) (k := 4) rfl (by kernel_rfl) rfl)) ?_
            refine wq_val 43 (by kernel_rfl) (fun w1 c1 => (op_load rfl (by kernel_rfl) (c1.cell 0 (u := .int .i64 _) rfl rfl))) ?_
            refine wq_dec 44 (by kernel_rfl) (fun w1 c1 => (op_lss rfl rfl)) (fun h10 => ?_) (fun h10 => ?_)
            · skip
              refine wq_val 45 (by kernel_rfl) (fun w1 c1 => (op_move (v := .bool true) rfl)) ?_
              refine wq_skip 46 (by kernel_rfl) ?_
              refine wq_skip 47 (by kernel_rfl) ?_
              refine wq_skip 48 (by kernel_rfl) ?_
              refine wq_skip 49 (by kernel_rfl) ?_
              refine wq_skip 50 (by kernel_rfl) ?_
              refine wq_skip 51 (by kernel_rfl) ?_
              refine wq_skip 52 (by kernel_rfl) ?_
              refine wq_val 53 (by kernel_rfl) (fun w1 c1 => (op_pick_t (v := .bool true) rfl rfl)) ?_
              refine wq_val 54 (by kernel_rfl) (fun w1 c1 => (op_move (v := .bool true) rfl)) ?_
              refine wq_skip 55 (by kernel_rfl) ?_
              refine wq_skip 56 (by kernel_rfl) ?_
              refine wq_skip 57 (by kernel_rfl) ?_
              refine wq_skip 58 (by kernel_rfl) ?_
              refine wq_val 59 (by kernel_rfl) (fun w1 c1 => (op_pick_t (v := .bool true) rfl rfl)) ?_
              exact leaf_q (sub_out 19 _ rfl (by kernel_rfl) ⟨(congrArg Value.bool (by rw [decide_eq_true h10] <;> rfl)), trivial⟩)
            · skip
              refine wq_val 45 (by kernel_rfl) (fun w1 c1 => (op_move (v := .bool false) rfl)) ?_
              refine wq_val 46 (by kernel_rfl) (fun w1 c1 => (op_fieldL (m := 4) (k := 4) rfl (by kernel_rfl) rfl)) ?_
              refine wq_val 47 (by kernel_rfl) (fun w1 c1 => (op_fieldL (m := 0) (k := 4) rfl (by kernel_rfl) rfl)) ?_
              refine wq_val 48 (by kernel_rfl) (fun w1 c1 => (op_load rfl (by kernel_rfl) (c1.cell 0 (u := .int .i64 _) rfl rfl))) ?_
              refine wq_val 49 (by kernel_rfl) (fun w1 c1 => (op_fieldL (m := 4) (k := 4) rfl (by kernel_rfl) rfl)) ?_
              refine wq_val 50 (by kernel_rfl) (fun w1 c1 => (op_fieldL (m := 1) (k := 5) rfl (by kernel_rfl) rfl)) ?_
              refine wq_val 51 (by kernel_rfl) (fun w1 c1 => (op_load rfl (by kernel_rfl) (c1.cell 0 (u := .int .i64 _) rfl rfl))) ?_
              refine wq_dec 52 (by kernel_rfl) (fun w1 c1 => (op_gtr rfl rfl)) (fun h11 => ?_) (fun h11 => ?_)
              · skip
                refine wq_val 53 (by kernel_rfl) (fun w1 c1 => (op_pick_f (v := .bool true) rfl rfl)) ?_
                refine wq_val 54 (by kernel_rfl) (fun w1 c1 => (op_move (v := .bool true) rfl)) ?_
                refine wq_skip 55 (by kernel_rfl) ?_
                refine wq_skip 56 (by kernel_rfl) ?_
                refine wq_skip 57 (by kernel_rfl) ?_
                refine wq_skip 58 (by kernel_rfl) ?_
                refine wq_val 59 (by kernel_rfl) (fun w1 c1 => (op_pick_t (v := .bool true) rfl rfl)) ?_
                exact leaf_q (sub_out 19 _ rfl (by kernel_rfl) ⟨(congrArg Value.bool (by rw [decide_eq_false h10, decide_eq_true h11] <;> rfl)), trivial⟩)
              · skip
                refine wq_val 53 (by kernel_rfl) (fun w1 c1 => (op_pick_f (v := .bool false) rfl rfl)) ?_
                refine wq_val 54 (by kernel_rfl) (fun w1 c1 => (op_move (v := .bool false) rfl)) ?_
                refine wq_val 55 (by kernel_rfl) (fun w1 c1 => (op_fieldL (m := 4) (k := 4) rfl (by kernel_rfl) rfl)) ?_
                refine wq_val 56 (by kernel_rfl) (fun w1 c1 => (op_fieldL (m := 1) (k := 5) rfl (by kernel_rfl) rfl)) ?_
                refine wq_val 57 (by kernel_rfl) (fun w1 c1 => (op_load rfl (by kernel_rfl) (c1.cell 0 (u := .int .i64 _) rfl rfl))) ?_
                refine wq_val 58 (by kernel_rfl) (fun w1 c1 => (op_gtr rfl rfl)) ?_
                refine wq_val 59 (by kernel_rfl) (fun w1 c1 => (op_pick_f (v := .bool _) rfl rfl)) ?_
                exact leaf_q (sub_out 19 _ rfl (by kernel_rfl) ⟨(congrArg Value.bool (by rw [decide_eq_false h10, decide_eq_false h11] <;> rfl)), trivial⟩)
          refine xm_next ?_
          refine cm_condB (by kernel_rfl) rfl (fun h12 => ?_) (fun h12 => ?_)
          · skip
            refine cm_seq ?_
            refine cm_region ?_
            refine lm_val 6 (by kernel_rfl) (fun w1 c1 => (op_assign (v := .int .i64 _) rfl)) ?_
            refine lm_nil ?_
            refine xm_next ?_
            refine cm_ret ?_
            refine xm_thenR ?_
            exact xm_retT rfl (by kernel_rfl) (show _ = Value.int .i64 _ from rfl) fun w1 c1 => ⟨(), rfl, hsub [] (by kernel_rfl) rfl w1 c1⟩
          · skip
            refine cm_skip ?_
            refine xm_next ?_
            refine cm_seq ?_
            refine cm_region ?_
            refine lm_val 6 (by kernel_rfl) (fun w1 c1 => (op_assign (v := .int .i64 _) rfl)) ?_
            refine lm_nil ?_
            refine xm_next ?_
            refine cm_ret ?_
            exact xm_retT rfl (by kernel_rfl) (show _ = Value.int .i64 _ from rfl) fun w1 c1 => ⟨(), rfl, hsub [] (by kernel_rfl) rfl w1 c1⟩
/-- recyclingref18.Check -/
def m_recyclingref18_Check (N : Nat) (p0 : (List ApiEmptying)) (p1 : Int) (p2 : Int) : Option (Int) :=
  (if 512 < (List.length p0 : Int) then
    some ((8 : Int))
  else
    (andThen
      (loopM (fun (s44 : Int) =>
        (if s44 < (List.length p0 : Int) then
          ck ((0 : Int) ≤ s44 ∧ s44 < (List.length p0 : Int)) (
            Option.bind (m_recyclingref18_fault N (ix p0 s44) p1 p2) fun r48 => (if r48 ≠ 0 then
              some (.done (.done (r48)))
            else
              ck (I64 (s44 + (1 : Int))) (
                some (.next (s44 + (1 : Int))))))
        else
          some (.done (.next ())))) N (0 : Int))
    fun (_s26 : Unit) =>
      (andThen
        (loopM (fun (s294 : Int) =>
          (if s294 < (List.length p0 : Int) then
            (andThen
              (loopM (fun (s334 : Int) =>
                (if s334 < s294 then
                  ck ((0 : Int) ≤ s294 ∧ s294 < (List.length p0 : Int)) (
                    ck ((0 : Int) ≤ s334 ∧ s334 < (List.length p0 : Int)) (
                      (if (ix p0 s294).ID = (ix p0 s334).ID then
                        some (.done (.done (.done (.done ((6 : Int))))))
                      else
                        ck (I64 (s334 + (1 : Int))) (
                          some (.next (s334 + (1 : Int)))))))
                else
                  some (.done (.next ())))) N (0 : Int))
            fun (_s318 : Unit) =>
              ck (I64 (s294 + (1 : Int))) (
                some (.next (s294 + (1 : Int)))))
          else
            some (.done (.next ())))) N (0 : Int))
      fun (_s196 : Unit) =>
        some ((0 : Int)))))
set_option maxRecDepth 20000 in
theorem m_recyclingref18_Check_ok (N : Nat) (w0 : World) (p0 : (List ApiEmptying)) (p1 : Int) (p2 : Int) (A_p0 : Option Addr) (n_p0 c_p0 : Nat) (hr_p0 : RdE w0 7 encApiEmptying A_p0 p0) (hz_p0 : SW A_p0 n_p0 c_p0 (List.length p0)) (r : Int) (hr : m_recyclingref18_Check N p0 p1 p2 = some r) :
    Calls Try.prog 14 [.slice A_p0 n_p0 c_p0, .int .i64 p1, .int .i64 p2].toArray w0 fun x w1 => ∃ u, x = .returned ((fun (r : Int) (_u : Unit) => .int .i64 r) r u) ∧ Hs w0 ((fun (_r : Int) (_u : Unit) => []) r u) w1 := by
  refine calls_cm (n := 52) (R := fun r x w1 => ∃ u, x = .returned ((fun (r : Int) (_u : Unit) => .int .i64 r) r u) ∧ Hs w0 ((fun (_r : Int) (_u : Unit) => []) r u) w1) Try.func14 rfl rfl (Nat.le_of_ble_eq_true rfl) ?_ r hr
  unfold m_recyclingref18_Check
  refine cm_seq ?_
  refine cm_region ?_
  refine lm_val 6 (by kernel_rfl) (fun w1 c1 => (op_assign (v := .int .i64 _) rfl)) ?_
  refine lm_nil ?_
  refine xm_next ?_
  refine cm_seq ?_
  refine cm_seq ?_
  refine cm_region ?_
  refine lm_val 11 (by kernel_rfl) (fun w1 c1 => (op_move (v := .slice _ _ _) rfl)) ?_
  refine lm_val 12 (by kernel_rfl) (fun w1 c1 => (op_lenN rfl (by kernel_rfl) hz_p0.2.2)) ?_
  refine lm_val 13 (by kernel_rfl) (fun w1 c1 => (op_gtr rfl rfl)) ?_
  refine lm_nil ?_
  refine xm_next ?_
  refine cm_cond (by kernel_rfl) rfl (fun h1 => ?_) (fun h1 => ?_)
  · skip
    refine cm_seq ?_
    refine cm_region ?_
    refine lm_val 6 (by kernel_rfl) (fun w1 c1 => (op_assign (v := .int .i64 _) rfl)) ?_
    refine lm_nil ?_
    refine xm_next ?_
    refine cm_ret ?_
    refine xm_thenR ?_
    exact xm_retT rfl (by kernel_rfl) (show _ = Value.int .i64 _ from rfl) fun w1 c1 => ⟨(), rfl, hsub [] (by kernel_rfl) rfl w1 c1⟩
  · skip
    refine cm_skip ?_
    refine xm_next ?_
    refine cm_join (σ := Unit) (ξ := Unit) (fun s26 u27 => [(0, .slice A_p0 n_p0 c_p0)]) (fun s26 u27 => []) ?_ ?_
    · skip
      refine cm_seq ?_
      refine cm_region ?_
      refine lm_val 7 (by kernel_rfl) (fun w1 c1 => (op_assign (v := .int .i64 _) rfl)) ?_
      refine lm_nil ?_
      refine xm_next ?_
      refine cm_block ?_
      refine cm_loop (σ := Int) (ξ := Unit) (fun s44 u45 => [(0, .slice A_p0 n_p0 c_p0), (1, .int .i64 p1), (2, .int .i64 p2), (7, .int .i64 s44)]) (fun s44 u45 => []) () ?_ ?_ ?_
      · exact (sub_cons (by kernel_rfl) rfl (sub_cons (by kernel_rfl) rfl (sub_cons (by kernel_rfl) rfl (sub_cons (by kernel_rfl) rfl sub_nil))))
      · exact hsub [] (by kernel_rfl) rfl
      intro s44 u45
      refine cm_seq ?_
      refine cm_seq ?_
      refine cm_region ?_
      refine lm_val 14 (by kernel_rfl) (fun w1 c1 => (op_move (v := .int .i64 _) rfl)) ?_
      refine lm_val 15 (by kernel_rfl) (fun w1 c1 => (op_move (v := .slice _ _ _) rfl)) ?_
      refine lm_val 16 (by kernel_rfl) (fun w1 c1 => (op_lenN rfl (by kernel_rfl) hz_p0.2.2)) ?_
      refine lm_val 17 (by kernel_rfl) (fun w1 c1 => (op_lss rfl rfl)) ?_
      refine lm_nil ?_
      refine xm_next ?_
      refine cm_cond (by kernel_rfl) rfl (fun h46 => ?_) (fun h46 => ?_)
      · skip
        refine cm_skip ?_
        refine xm_next ?_
        refine cm_seq ?_
        refine cm_block ?_
        refine cm_seq ?_
        refine cm_region ?_
        refine lm_val 20 (by kernel_rfl) (fun w1 c1 => (op_move (v := .slice _ _ _) rfl)) ?_
        refine lm_val 21 (by kernel_rfl) (fun w1 c1 => (op_move (v := .int .i64 _) rfl)) ?_
        refine lm_ck (fun h47 => ?_)
        refine lm_val 22 (by kernel_rfl) (fun w1 c1 => (op_indexA 7 rfl rfl (by kernel_rfl) ((hr_p0.old c1).addr h47.1 h47.2) hz_p0.2.2 h47.1 h47.2)) ?_
        refine lm_val 23 (by kernel_rfl) (fun w1 c1 => (op_loadR [.int .i64 ((ix p0 s44).ID), .int .i64 ((ix p0 s44).Container), .int .i64 ((ix p0 s44).Vehicle), .int .i64 ((ix p0 s44).At), .int .i64 ((ix p0 s44).Mass.Lo), .int .i64 ((ix p0 s44).Mass.Hi), .bool ((ix p0 s44).Void)] rfl (by kernel_rfl) ((hr_p0.old c1).row h47.1 h47.2))) ?_
        refine lm_val 24 (by kernel_rfl) (fun w1 c1 => (op_move (v := .int .i64 _) rfl)) ?_
        refine lm_val 25 (by kernel_rfl) (fun w1 c1 => (op_move (v := .int .i64 _) rfl)) ?_
        refine lm_call 26 (V := (fun (r : Int) (_u : Unit) => .int .i64 r)) (HR := (fun (_r : Int) (_u : Unit) => [])) (by kernel_rfl) (fun w1 => op_call (by kernel_rfl)) (fun r1 hr1 w1 c1 => m_recyclingref18_fault_ok N w1 (ix p0 s44) p1 p2  r1 hr1) ?_
        intro r48 u49
        refine lm_val 8 (by kernel_rfl) (fun w1 c1 => (op_assign (v := .int .i64 _) rfl)) ?_
        refine lm_nil ?_
        refine xm_next ?_
        refine cm_seq ?_
        refine cm_region ?_
        refine lm_val 27 (by kernel_rfl) (fun w1 c1 => (op_move (v := .int .i64 _) rfl)) ?_
        refine lm_val 28 (by kernel_rfl) (fun w1 c1 => (op_neq rfl rfl)) ?_
        refine lm_nil ?_
        refine xm_next ?_
        refine cm_cond (by kernel_rfl) rfl (fun h50 => ?_) (fun h50 => ?_)
        · skip
          refine cm_seq ?_
          refine cm_region ?_
          refine lm_val 29 (by kernel_rfl) (fun w1 c1 => (op_move (v := .int .i64 _) rfl)) ?_
          refine lm_val 6 (by kernel_rfl) (fun w1 c1 => (op_assign (v := .int .i64 _) rfl)) ?_
          refine lm_nil ?_
          refine xm_next ?_
          refine cm_ret ?_
          refine xm_inR ?_
          refine xm_thenR ?_
          refine xm_lret ?_
          refine xm_inR ?_
          refine xm_lret ?_
          exact xm_retT rfl (by kernel_rfl) (show _ = Value.int .i64 _ from rfl) fun w1 c1 => ⟨(), rfl, hsub [] (by kernel_rfl) rfl w1 c1⟩
        · skip
          refine cm_skip ?_
          refine xm_inN ?_
          refine xm_next ?_
          refine cm_region ?_
          refine lm_val 18 (by kernel_rfl) (fun w1 c1 => (op_move (v := .int .i64 _) rfl)) ?_
          refine lm_ck (fun h51 => ?_)
          refine lm_val 19 (by kernel_rfl) (fun w1 c1 => (op_add rfl rfl h51)) ?_
          refine lm_val 7 (by kernel_rfl) (fun w1 c1 => (op_assign (v := .int .i64 _) rfl)) ?_
          refine lm_nil ?_
          exact xm_lnext () (sub_cons (by kernel_rfl) rfl (sub_cons (by kernel_rfl) rfl (sub_cons (by kernel_rfl) rfl (sub_cons (by kernel_rfl) rfl sub_nil)))) (hsub [] (by kernel_rfl) rfl)
      · skip
        refine cm_exit ?_
        refine xm_thenE ?_
        refine xm_lexit ?_
        refine xm_here ?_
        exact xm_lnext () (sub_cons (by kernel_rfl) rfl sub_nil) (hsub [] (by kernel_rfl) rfl)
    intro s26 u27
    refine cm_join (σ := Unit) (ξ := Unit) (fun s196 u197 => []) (fun s196 u197 => []) ?_ ?_
    · skip
      refine cm_seq ?_
      refine cm_region ?_
      refine lm_val 9 (by kernel_rfl) (fun w1 c1 => (op_assign (v := .int .i64 _) rfl)) ?_
      refine lm_nil ?_
      refine xm_next ?_
      refine cm_block ?_
      refine cm_loop (σ := Int) (ξ := Unit) (fun s294 u295 => [(0, .slice A_p0 n_p0 c_p0), (9, .int .i64 s294)]) (fun s294 u295 => []) () ?_ ?_ ?_
      · exact (sub_cons (by kernel_rfl) rfl (sub_cons (by kernel_rfl) rfl sub_nil))
      · exact hsub [] (by kernel_rfl) rfl
      intro s294 u295
      refine cm_seq ?_
      refine cm_seq ?_
      refine cm_region ?_
      refine lm_val 30 (by kernel_rfl) (fun w1 c1 => (op_move (v := .int .i64 _) rfl)) ?_
      refine lm_val 31 (by kernel_rfl) (fun w1 c1 => (op_move (v := .slice _ _ _) rfl)) ?_
      refine lm_val 32 (by kernel_rfl) (fun w1 c1 => (op_lenN rfl (by kernel_rfl) hz_p0.2.2)) ?_
      refine lm_val 33 (by kernel_rfl) (fun w1 c1 => (op_lss rfl rfl)) ?_
      refine lm_nil ?_
      refine xm_next ?_
      refine cm_cond (by kernel_rfl) rfl (fun h296 => ?_) (fun h296 => ?_)
      · skip
        refine cm_skip ?_
        refine xm_next ?_
        refine cm_join (σ := Unit) (ξ := Unit) (fun s318 u319 => [(0, .slice A_p0 n_p0 c_p0), (9, .int .i64 s294)]) (fun s318 u319 => []) ?_ ?_
        · skip
          refine cm_block ?_
          refine cm_seq ?_
          refine cm_region ?_
          refine lm_val 10 (by kernel_rfl) (fun w1 c1 => (op_assign (v := .int .i64 _) rfl)) ?_
          refine lm_nil ?_
          refine xm_next ?_
          refine cm_block ?_
          refine cm_loop (σ := Int) (ξ := Unit) (fun s334 u335 => [(0, .slice A_p0 n_p0 c_p0), (9, .int .i64 s294), (10, .int .i64 s334)]) (fun s334 u335 => []) () ?_ ?_ ?_
          · exact (sub_cons (by kernel_rfl) rfl (sub_cons (by kernel_rfl) rfl (sub_cons (by kernel_rfl) rfl sub_nil)))
          · exact hsub [] (by kernel_rfl) rfl
          intro s334 u335
          refine cm_seq ?_
          refine cm_seq ?_
          refine cm_region ?_
          refine lm_val 36 (by kernel_rfl) (fun w1 c1 => (op_move (v := .int .i64 _) rfl)) ?_
          refine lm_val 37 (by kernel_rfl) (fun w1 c1 => (op_move (v := .int .i64 _) rfl)) ?_
          refine lm_val 38 (by kernel_rfl) (fun w1 c1 => (op_lss rfl rfl)) ?_
          refine lm_nil ?_
          refine xm_next ?_
          refine cm_cond (by kernel_rfl) rfl (fun h336 => ?_) (fun h336 => ?_)
          · skip
            refine cm_skip ?_
            refine xm_next ?_
            refine cm_seq ?_
            refine cm_block ?_
            refine cm_seq ?_
            refine cm_ck (fun h337 => ?_)
            refine cm_ck (fun h338 => ?_)
            refine cm_drawn [(51, .bool (decide ((ix p0 s294).ID = (ix p0 s334).ID)))] (by kernel_rfl) (by kernel_rfl) ?_ ?_
            · skip
              refine wq_val 41 (by kernel_rfl) (fun w1 c1 => (op_move (v := .slice _ _ _) rfl)) ?_
              refine wq_val 42 (by kernel_rfl) (fun w1 c1 => (op_move (v := .int .i64 _) rfl)) ?_
              refine wq_val 43 (by kernel_rfl) (fun w1 c1 => (op_indexA 7 rfl rfl (by kernel_rfl) ((hr_p0.old c1).addr h337.1 h337.2) hz_p0.2.2 h337.1 h337.2)) ?_
              refine wq_val 44 (by kernel_rfl) (fun w1 c1 => (op_field0 rfl (by kernel_rfl))) ?_
              refine wq_val 45 (by kernel_rfl) (fun w1 c1 => (op_load (v := .int .i64 ((ix p0 s294).ID)) rfl (by kernel_rfl) ((hr_p0.old c1).cell0 h337.1 h337.2 rfl))) ?_
              refine wq_val 46 (by kernel_rfl) (fun w1 c1 => (op_move (v := .slice _ _ _) rfl)) ?_
              refine wq_val 47 (by kernel_rfl) (fun w1 c1 => (op_move (v := .int .i64 _) rfl)) ?_
              refine wq_val 48 (by kernel_rfl) (fun w1 c1 => (op_indexA 7 rfl rfl (by kernel_rfl) ((hr_p0.old c1).addr h338.1 h338.2) hz_p0.2.2 h338.1 h338.2)) ?_
              refine wq_val 49 (by kernel_rfl) (fun w1 c1 => (op_field0 rfl (by kernel_rfl))) ?_
              refine wq_val 50 (by kernel_rfl) (fun w1 c1 => (op_load (v := .int .i64 ((ix p0 s334).ID)) rfl (by kernel_rfl) ((hr_p0.old c1).cell0 h338.1 h338.2 rfl))) ?_
              refine wq_val 51 (by kernel_rfl) (fun w1 c1 => (op_eql rfl rfl)) ?_
              exact leaf_q (sub_out 11 _ rfl (by kernel_rfl) ⟨rfl, trivial⟩)
            refine xm_next ?_
            refine cm_cond (by kernel_rfl) rfl (fun h339 => ?_) (fun h339 => ?_)
            · skip
              refine cm_seq ?_
              refine cm_region ?_
              refine lm_val 6 (by kernel_rfl) (fun w1 c1 => (op_assign (v := .int .i64 _) rfl)) ?_
              refine lm_nil ?_
              refine xm_next ?_
              refine cm_ret ?_
              refine xm_inR ?_
              refine xm_thenR ?_
              refine xm_lret ?_
              refine xm_inR ?_
              refine xm_inR ?_
              refine xm_lret ?_
              refine xm_lret ?_
              refine xm_inR ?_
              refine xm_lret ?_
              exact xm_retT rfl (by kernel_rfl) (show _ = Value.int .i64 _ from rfl) fun w1 c1 => ⟨(), rfl, hsub [] (by kernel_rfl) rfl w1 c1⟩
            · skip
              refine cm_skip ?_
              refine xm_inN ?_
              refine xm_next ?_
              refine cm_region ?_
              refine lm_val 39 (by kernel_rfl) (fun w1 c1 => (op_move (v := .int .i64 _) rfl)) ?_
              refine lm_ck (fun h340 => ?_)
              refine lm_val 40 (by kernel_rfl) (fun w1 c1 => (op_add rfl rfl h340)) ?_
              refine lm_val 10 (by kernel_rfl) (fun w1 c1 => (op_assign (v := .int .i64 _) rfl)) ?_
              refine lm_nil ?_
              exact xm_lnext () (sub_cons (by kernel_rfl) rfl (sub_cons (by kernel_rfl) rfl (sub_cons (by kernel_rfl) rfl sub_nil))) (hsub [] (by kernel_rfl) rfl)
          · skip
            refine cm_exit ?_
            refine xm_thenE ?_
            refine xm_lexit ?_
            refine xm_here ?_
            refine xm_inN ?_
            exact xm_lnext () (sub_cons (by kernel_rfl) rfl (sub_cons (by kernel_rfl) rfl sub_nil)) (hsub [] (by kernel_rfl) rfl)
        intro s318 u319
        refine cm_region ?_
        refine lm_val 34 (by kernel_rfl) (fun w1 c1 => (op_move (v := .int .i64 _) rfl)) ?_
        refine lm_ck (fun h341 => ?_)
        refine lm_val 35 (by kernel_rfl) (fun w1 c1 => (op_add rfl rfl h341)) ?_
        refine lm_val 9 (by kernel_rfl) (fun w1 c1 => (op_assign (v := .int .i64 _) rfl)) ?_
        refine lm_nil ?_
        exact xm_lnext () (sub_cons (by kernel_rfl) rfl (sub_cons (by kernel_rfl) rfl sub_nil)) (hsub [] (by kernel_rfl) rfl)
      · skip
        refine cm_exit ?_
        refine xm_thenE ?_
        refine xm_lexit ?_
        refine xm_here ?_
        exact xm_lnext () sub_nil (hsub [] (by kernel_rfl) rfl)
    intro s196 u197
    refine cm_seq ?_
    refine cm_region ?_
    refine lm_val 6 (by kernel_rfl) (fun w1 c1 => (op_assign (v := .int .i64 _) rfl)) ?_
    refine lm_nil ?_
    refine xm_next ?_
    refine cm_ret ?_
    exact xm_retT rfl (by kernel_rfl) (show _ = Value.int .i64 _ from rfl) fun w1 c1 => ⟨(), rfl, hsub [] (by kernel_rfl) rfl w1 c1⟩
/-- recyclingref18.ordered -/
def m_recyclingref18_ordered (N : Nat) (p0 : (List ApiEmptying)) : Option ((List Int)) :=
  (andThen
    (loopM (fun (s722 : (List Int) × Int) =>
      (if s722.2 < (List.length p0 : Int) then
        (andThen
          (loopM (fun (s822 : Int) =>
            ck (decide (0 < s822) = true → (0 : Int) ≤ s722.2 ∧ s722.2 < (List.length p0 : Int)) (
              ck (decide (0 < s822) = true → I64 (s822 - (1 : Int))) (
                ck (decide (0 < s822) = true → (0 : Int) ≤ (s822 - (1 : Int)) ∧ (s822 - (1 : Int)) < (List.length s722.1 : Int)) (
                  ck (decide (0 < s822) = true → (0 : Int) ≤ (ix s722.1 (s822 - (1 : Int))) ∧ (ix s722.1 (s822 - (1 : Int))) < (List.length p0 : Int)) (
                    ck (((decide (0 < s822)) && (!(decide ((ix p0 s722.2).At < (ix p0 (ix s722.1 (s822 - (1 : Int)))).At)))) = true → (0 : Int) ≤ s722.2 ∧ s722.2 < (List.length p0 : Int)) (
                      ck (((decide (0 < s822)) && (!(decide ((ix p0 s722.2).At < (ix p0 (ix s722.1 (s822 - (1 : Int)))).At)))) = true → I64 (s822 - (1 : Int))) (
                        ck (((decide (0 < s822)) && (!(decide ((ix p0 s722.2).At < (ix p0 (ix s722.1 (s822 - (1 : Int)))).At)))) = true → (0 : Int) ≤ (s822 - (1 : Int)) ∧ (s822 - (1 : Int)) < (List.length s722.1 : Int)) (
                          ck (((decide (0 < s822)) && (!(decide ((ix p0 s722.2).At < (ix p0 (ix s722.1 (s822 - (1 : Int)))).At)))) = true → (0 : Int) ≤ (ix s722.1 (s822 - (1 : Int))) ∧ (ix s722.1 (s822 - (1 : Int))) < (List.length p0 : Int)) (
                            ck ((((decide (0 < s822)) && (!(decide ((ix p0 s722.2).At < (ix p0 (ix s722.1 (s822 - (1 : Int)))).At)))) && (decide ((ix p0 s722.2).At = (ix p0 (ix s722.1 (s822 - (1 : Int)))).At))) = true → (0 : Int) ≤ s722.2 ∧ s722.2 < (List.length p0 : Int)) (
                              ck ((((decide (0 < s822)) && (!(decide ((ix p0 s722.2).At < (ix p0 (ix s722.1 (s822 - (1 : Int)))).At)))) && (decide ((ix p0 s722.2).At = (ix p0 (ix s722.1 (s822 - (1 : Int)))).At))) = true → I64 (s822 - (1 : Int))) (
                                ck ((((decide (0 < s822)) && (!(decide ((ix p0 s722.2).At < (ix p0 (ix s722.1 (s822 - (1 : Int)))).At)))) && (decide ((ix p0 s722.2).At = (ix p0 (ix s722.1 (s822 - (1 : Int)))).At))) = true → (0 : Int) ≤ (s822 - (1 : Int)) ∧ (s822 - (1 : Int)) < (List.length s722.1 : Int)) (
                                  ck ((((decide (0 < s822)) && (!(decide ((ix p0 s722.2).At < (ix p0 (ix s722.1 (s822 - (1 : Int)))).At)))) && (decide ((ix p0 s722.2).At = (ix p0 (ix s722.1 (s822 - (1 : Int)))).At))) = true → (0 : Int) ≤ (ix s722.1 (s822 - (1 : Int))) ∧ (ix s722.1 (s822 - (1 : Int))) < (List.length p0 : Int)) (
                                    (if ((decide (0 < s822)) && ((decide ((ix p0 s722.2).At < (ix p0 (ix s722.1 (s822 - (1 : Int)))).At)) || ((decide ((ix p0 s722.2).At = (ix p0 (ix s722.1 (s822 - (1 : Int)))).At)) && (decide ((ix p0 s722.2).ID < (ix p0 (ix s722.1 (s822 - (1 : Int)))).ID))))) = true then
                                      ck (I64 (s822 - (1 : Int))) (
                                        some (.next (s822 - (1 : Int))))
                                    else
                                      some (.done (.next s822)))))))))))))))) N (List.length s722.1 : Int))
        fun (s782 : Int) =>
          ck ((0 : Int) ≤ s782 ∧ s782 ≤ (List.length s722.1 : Int)) (
            ck ((List.length ([] : List Int) + List.length (List.drop (Int.toNat s782) s722.1)) * 8 ≤ 140737488355328) (
              ck ((0 : Int) ≤ s782 ∧ s782 ≤ (List.length s722.1 : Int)) (
                ck (0 < List.length ([s722.2])) (
                  ck ((List.length (List.take (Int.toNat s782) s722.1) + List.length ([s722.2])) * 8 ≤ 140737488355328) (
                    ck ((List.length ((List.take (Int.toNat s782) s722.1) ++ ([s722.2])) + List.length (([] : List Int) ++ (List.drop (Int.toNat s782) s722.1))) * 8 ≤ 140737488355328) (
                      ck (I64 (s722.2 + (1 : Int))) (
                        some (.next ((((List.take (Int.toNat s782) s722.1) ++ ([s722.2])) ++ (([] : List Int) ++ (List.drop (Int.toNat s782) s722.1))), (s722.2 + (1 : Int))))))))))))
      else
        some (.done (.next s722.1)))) N (([] : List Int), (0 : Int)))
  fun (s434 : (List Int)) =>
    some (s434))
set_option maxRecDepth 20000 in
theorem m_recyclingref18_ordered_ok (N : Nat) (w0 : World) (p0 : (List ApiEmptying)) (A_p0 : Option Addr) (n_p0 c_p0 : Nat) (hr_p0 : RdE w0 7 encApiEmptying A_p0 p0) (hz_p0 : SW A_p0 n_p0 c_p0 (List.length p0)) (r : (List Int)) (hr : m_recyclingref18_ordered N p0 = some r) :
    Calls Try.prog 40 [.slice A_p0 n_p0 c_p0].toArray w0 fun x w1 => ∃ u, x = .returned ((fun (_r : (List Int)) (u : (Option Addr) × Nat × Nat) => .slice u.1 u.2.1 u.2.2) r u) ∧ Hs w0 ((fun (r : (List Int)) (u : (Option Addr) × Nat × Nat) => [ownE 3 1 encI u.1 u.2.1 u.2.2 r]) r u) w1 := by
  refine calls_cm (n := 86) (R := fun r x w1 => ∃ u, x = .returned ((fun (_r : (List Int)) (u : (Option Addr) × Nat × Nat) => .slice u.1 u.2.1 u.2.2) r u) ∧ Hs w0 ((fun (r : (List Int)) (u : (Option Addr) × Nat × Nat) => [ownE 3 1 encI u.1 u.2.1 u.2.2 r]) r u) w1) Try.func40 rfl rfl (Nat.le_of_ble_eq_true rfl) ?_ r hr
  unfold m_recyclingref18_ordered
  refine cm_seq ?_
  refine cm_region ?_
  refine lm_val 2 (by kernel_rfl) (fun w1 c1 => (op_assign (v := .slice _ _ _) rfl)) ?_
  refine lm_nil ?_
  refine xm_next ?_
  refine cm_seq ?_
  refine cm_region ?_
  refine lm_slice0 7 (el := 3) (sz := 1) (bytes := 8) (enc := encI) (by kernel_rfl) (by kernel_rfl) ?_
  intro A1 n2 k3 h4
  refine lm_val 3 (by kernel_rfl) (fun w1 c1 => (op_assign (v := .slice _ _ _) rfl)) ?_
  refine lm_nil ?_
  refine xm_next ?_
  refine cm_join (σ := (List Int)) (ξ := (Option Addr) × Nat × Nat) (fun s434 u435 => [(3, .slice u435.1 u435.2.1 u435.2.2)]) (fun s434 u435 => [ownE 3 1 encI u435.1 u435.2.1 u435.2.2 s434]) ?_ ?_
  · skip
    refine cm_seq ?_
    refine cm_region ?_
    refine lm_val 4 (by kernel_rfl) (fun w1 c1 => (op_assign (v := .int .i64 _) rfl)) ?_
    refine lm_nil ?_
    refine xm_next ?_
    refine cm_block ?_
    refine cm_loop (σ := (List Int) × Int) (ξ := (Option Addr) × Nat × Nat) (fun s722 u723 => [(0, .slice A_p0 n_p0 c_p0), (3, .slice u723.1 u723.2.1 u723.2.2), (4, .int .i64 s722.2)]) (fun s722 u723 => [ownE 3 1 encI u723.1 u723.2.1 u723.2.2 s722.1]) (A1, n2, k3) ?_ ?_ ?_
    · exact (sub_cons (by kernel_rfl) rfl (sub_cons (by kernel_rfl) rfl (sub_cons (by kernel_rfl) rfl sub_nil)))
    · exact hsub [0] (by kernel_rfl) rfl
    intro s722 u723
    refine cm_seq ?_
    refine cm_seq ?_
    refine cm_region ?_
    refine lm_val 8 (by kernel_rfl) (fun w1 c1 => (op_move (v := .int .i64 _) rfl)) ?_
    refine lm_val 9 (by kernel_rfl) (fun w1 c1 => (op_move (v := .slice _ _ _) rfl)) ?_
    refine lm_val 10 (by kernel_rfl) (fun w1 c1 => (op_lenN rfl (by kernel_rfl) hz_p0.2.2)) ?_
    refine lm_val 11 (by kernel_rfl) (fun w1 c1 => (op_lss rfl rfl)) ?_
    refine lm_nil ?_
    refine xm_next ?_
    refine cm_cond (by kernel_rfl) rfl (fun h724 => ?_) (fun h724 => ?_)
    · skip
      refine cm_skip ?_
      refine xm_next ?_
      refine cm_seq ?_
      refine cm_block ?_
      refine cm_seq ?_
      refine cm_region ?_
      refine lm_val 14 (by kernel_rfl) (fun w1 c1 => (op_move (v := .slice _ _ _) rfl)) ?_
      refine lm_val 15 (by kernel_rfl) (fun w1 c1 => (op_lenN rfl (by kernel_rfl) (c1.ownZ 0 rfl).2.2)) ?_
      refine lm_val 5 (by kernel_rfl) (fun w1 c1 => (op_assign (v := .int .i64 _) rfl)) ?_
      refine lm_nil ?_
      refine xm_next ?_
      refine cm_join (σ := Int) (ξ := Unit) (fun s782 u783 => [(0, .slice A_p0 n_p0 c_p0), (3, .slice u723.1 u723.2.1 u723.2.2), (4, .int .i64 s722.2), (5, .int .i64 s782)]) (fun s782 u783 => [ownE 3 1 encI u723.1 u723.2.1 u723.2.2 s722.1]) ?_ ?_
      · skip
        refine cm_block ?_
        refine cm_loop (σ := Int) (ξ := Unit) (fun s822 u823 => [(0, .slice A_p0 n_p0 c_p0), (3, .slice u723.1 u723.2.1 u723.2.2), (4, .int .i64 s722.2), (5, .int .i64 s822)]) (fun s822 u823 => [ownE 3 1 encI u723.1 u723.2.1 u723.2.2 s722.1]) () ?_ ?_ ?_
        · exact (sub_cons (by kernel_rfl) rfl (sub_cons (by kernel_rfl) rfl (sub_cons (by kernel_rfl) rfl (sub_cons (by kernel_rfl) rfl sub_nil))))
        · exact hsub [0] (by kernel_rfl) rfl
        intro s822 u823
        refine cm_seq ?_
        refine cm_seq ?_
        refine cm_ck (fun h824 => ?_)
        refine cm_ck (fun h825 => ?_)
        refine cm_ck (fun h826 => ?_)
        refine cm_ck (fun h827 => ?_)
        refine cm_ck (fun h828 => ?_)
        refine cm_ck (fun h829 => ?_)
        refine cm_ck (fun h830 => ?_)
        refine cm_ck (fun h831 => ?_)
        refine cm_ck (fun h832 => ?_)
        refine cm_ck (fun h833 => ?_)
        refine cm_ck (fun h834 => ?_)
        refine cm_ck (fun h835 => ?_)
        refine cm_drawn [(68, .bool ((decide (0 < s822)) && ((decide ((ix p0 s722.2).At < (ix p0 (ix s722.1 (s822 - (1 : Int)))).At)) || ((decide ((ix p0 s722.2).At = (ix p0 (ix s722.1 (s822 - (1 : Int)))).At)) && (decide ((ix p0 s722.2).ID < (ix p0 (ix s722.1 (s822 - (1 : Int)))).ID))))))] (by kernel_rfl) (by kernel_rfl) ?_ ?_
        · skip
          refine wq_val 16 (by kernel_rfl) (fun w1 c1 => (op_move (v := .int .i64 _) rfl)) ?_
          refine wq_dec 17 (by kernel_rfl) (fun w1 c1 => (op_gtr rfl rfl)) (fun h836 => ?_) (fun h836 => ?_)
          · skip
            refine wq_val 18 (by kernel_rfl) (fun w1 c1 => (op_move (v := .bool true) rfl)) ?_
            refine wq_val 19 (by kernel_rfl) (fun w1 c1 => (op_move (v := .slice _ _ _) rfl)) ?_
            refine wq_val 20 (by kernel_rfl) (fun w1 c1 => (op_move (v := .int .i64 _) rfl)) ?_
            refine wq_val 21 (by kernel_rfl) (fun w1 c1 => (op_indexA 7 rfl rfl (by kernel_rfl) ((hr_p0.old c1).addr (h824 (by rw [decide_eq_true h836] <;> rfl)).1 (h824 (by rw [decide_eq_true h836] <;> rfl)).2) hz_p0.2.2 (h824 (by rw [decide_eq_true h836] <;> rfl)).1 (h824 (by rw [decide_eq_true h836] <;> rfl)).2)) ?_
            refine wq_val 22 (by kernel_rfl) (fun w1 c1 => (op_field (m := 3) rfl (by kernel_rfl))) ?_
            refine wq_val 23 (by kernel_rfl) (fun w1 c1 => (op_load (v := .int .i64 ((ix p0 s722.2).At)) rfl (by kernel_rfl) ((hr_p0.old c1).cell (j := 3) (h824 (by rw [decide_eq_true h836] <;> rfl)).1 (h824 (by rw [decide_eq_true h836] <;> rfl)).2 rfl))) ?_
            refine wq_val 24 (by kernel_rfl) (fun w1 c1 => (op_move (v := .slice _ _ _) rfl)) ?_
            refine wq_val 25 (by kernel_rfl) (fun w1 c1 => (op_move (v := .slice _ _ _) rfl)) ?_
            refine wq_val 26 (by kernel_rfl) (fun w1 c1 => (op_move (v := .int .i64 _) rfl)) ?_
            refine wq_val 27 (by kernel_rfl) (fun w1 c1 => (op_sub rfl rfl (h825 (by rw [decide_eq_true h836] <;> rfl)))) ?_
            refine wq_val 28 (by kernel_rfl) (fun w1 c1 => (op_indexA 1 rfl rfl (by kernel_rfl) ((c1.own 0 rfl encI_len).addr (h826 (by rw [decide_eq_true h836] <;> rfl)).1 (h826 (by rw [decide_eq_true h836] <;> rfl)).2) (c1.ownZ 0 rfl).2.2 (h826 (by rw [decide_eq_true h836] <;> rfl)).1 (h826 (by rw [decide_eq_true h836] <;> rfl)).2)) ?_
            refine wq_val 29 (by kernel_rfl) (fun w1 c1 => (op_load (v := .int .i64 (ix s722.1 (s822 - (1 : Int)))) rfl (by kernel_rfl) ((c1.own 0 rfl encI_len).cell0 (h826 (by rw [decide_eq_true h836] <;> rfl)).1 (h826 (by rw [decide_eq_true h836] <;> rfl)).2 rfl))) ?_
            refine wq_val 30 (by kernel_rfl) (fun w1 c1 => (op_indexA 7 rfl rfl (by kernel_rfl) ((hr_p0.old c1).addr (h827 (by rw [decide_eq_true h836] <;> rfl)).1 (h827 (by rw [decide_eq_true h836] <;> rfl)).2) hz_p0.2.2 (h827 (by rw [decide_eq_true h836] <;> rfl)).1 (h827 (by rw [decide_eq_true h836] <;> rfl)).2)) ?_
            refine wq_val 31 (by kernel_rfl) (fun w1 c1 => (op_field (m := 3) rfl (by kernel_rfl))) ?_
            refine wq_val 32 (by kernel_rfl) (fun w1 c1 => (op_load (v := .int .i64 ((ix p0 (ix s722.1 (s822 - (1 : Int)))).At)) rfl (by kernel_rfl) ((hr_p0.old c1).cell (j := 3) (h827 (by rw [decide_eq_true h836] <;> rfl)).1 (h827 (by rw [decide_eq_true h836] <;> rfl)).2 rfl))) ?_
            refine wq_dec 33 (by kernel_rfl) (fun w1 c1 => (op_lss rfl rfl)) (fun h837 => ?_) (fun h837 => ?_)
            · skip
              refine wq_val 34 (by kernel_rfl) (fun w1 c1 => (op_move (v := .bool true) rfl)) ?_
              refine wq_skip 35 (by kernel_rfl) ?_
              refine wq_skip 36 (by kernel_rfl) ?_
              refine wq_skip 37 (by kernel_rfl) ?_
              refine wq_skip 38 (by kernel_rfl) ?_
              refine wq_skip 39 (by kernel_rfl) ?_
              refine wq_skip 40 (by kernel_rfl) ?_
              refine wq_skip 41 (by kernel_rfl) ?_
              refine wq_skip 42 (by kernel_rfl) ?_
              refine wq_skip 43 (by kernel_rfl) ?_
              refine wq_skip 44 (by kernel_rfl) ?_
              refine wq_skip 45 (by kernel_rfl) ?_
              refine wq_skip 46 (by kernel_rfl) ?_
              refine wq_skip 47 (by kernel_rfl) ?_
              refine wq_skip 48 (by kernel_rfl) ?_
              refine wq_skip 49 (by kernel_rfl) ?_
              refine wq_skip 50 (by kernel_rfl) ?_
              refine wq_skip 51 (by kernel_rfl) ?_
              refine wq_skip 52 (by kernel_rfl) ?_
              refine wq_skip 53 (by kernel_rfl) ?_
              refine wq_skip 54 (by kernel_rfl) ?_
              refine wq_skip 55 (by kernel_rfl) ?_
              refine wq_skip 56 (by kernel_rfl) ?_
              refine wq_skip 57 (by kernel_rfl) ?_
              refine wq_skip 58 (by kernel_rfl) ?_
              refine wq_skip 59 (by kernel_rfl) ?_
              refine wq_skip 60 (by kernel_rfl) ?_
              refine wq_skip 61 (by kernel_rfl) ?_
              refine wq_skip 62 (by kernel_rfl) ?_
              refine wq_skip 63 (by kernel_rfl) ?_
              refine wq_skip 64 (by kernel_rfl) ?_
              refine wq_skip 65 (by kernel_rfl) ?_
              refine wq_skip 66 (by kernel_rfl) ?_
              refine wq_val 67 (by kernel_rfl) (fun w1 c1 => (op_pick_t (v := .bool true) rfl rfl)) ?_
              refine wq_val 68 (by kernel_rfl) (fun w1 c1 => (op_pick_t (v := .bool true) rfl rfl)) ?_
              exact leaf_q (sub_out 53 _ rfl (by kernel_rfl) ⟨(congrArg Value.bool (by rw [decide_eq_true h836, decide_eq_true h837] <;> rfl)), trivial⟩)
            · skip
              refine wq_val 34 (by kernel_rfl) (fun w1 c1 => (op_move (v := .bool false) rfl)) ?_
              refine wq_val 35 (by kernel_rfl) (fun w1 c1 => (op_move (v := .slice _ _ _) rfl)) ?_
              refine wq_val 36 (by kernel_rfl) (fun w1 c1 => (op_move (v := .int .i64 _) rfl)) ?_
              refine wq_val 37 (by kernel_rfl) (fun w1 c1 => (op_indexA 7 rfl rfl (by kernel_rfl) ((hr_p0.old c1).addr (h828 (by rw [decide_eq_true h836, decide_eq_false h837] <;> rfl)).1 (h828 (by rw [decide_eq_true h836, decide_eq_false h837] <;> rfl)).2) hz_p0.2.2 (h828 (by rw [decide_eq_true h836, decide_eq_false h837] <;> rfl)).1 (h828 (by rw [decide_eq_true h836, decide_eq_false h837] <;> rfl)).2)) ?_
              refine wq_val 38 (by kernel_rfl) (fun w1 c1 => (op_field (m := 3) rfl (by kernel_rfl))) ?_
              refine wq_val 39 (by kernel_rfl) (fun w1 c1 => (op_load (v := .int .i64 ((ix p0 s722.2).At)) rfl (by kernel_rfl) ((hr_p0.old c1).cell (j := 3) (h828 (by rw [decide_eq_true h836, decide_eq_false h837] <;> rfl)).1 (h828 (by rw [decide_eq_true h836, decide_eq_false h837] <;> rfl)).2 rfl))) ?_
              refine wq_val 40 (by kernel_rfl) (fun w1 c1 => (op_move (v := .slice _ _ _) rfl)) ?_
              refine wq_val 41 (by kernel_rfl) (fun w1 c1 => (op_move (v := .slice _ _ _) rfl)) ?_
              refine wq_val 42 (by kernel_rfl) (fun w1 c1 => (op_move (v := .int .i64 _) rfl)) ?_
              refine wq_val 43 (by kernel_rfl) (fun w1 c1 => (op_sub rfl rfl (h829 (by rw [decide_eq_true h836, decide_eq_false h837] <;> rfl)))) ?_
              refine wq_val 44 (by kernel_rfl) (fun w1 c1 => (op_indexA 1 rfl rfl (by kernel_rfl) ((c1.own 0 rfl encI_len).addr (h830 (by rw [decide_eq_true h836, decide_eq_false h837] <;> rfl)).1 (h830 (by rw [decide_eq_true h836, decide_eq_false h837] <;> rfl)).2) (c1.ownZ 0 rfl).2.2 (h830 (by rw [decide_eq_true h836, decide_eq_false h837] <;> rfl)).1 (h830 (by rw [decide_eq_true h836, decide_eq_false h837] <;> rfl)).2)) ?_
              refine wq_val 45 (by kernel_rfl) (fun w1 c1 => (op_load (v := .int .i64 (ix s722.1 (s822 - (1 : Int)))) rfl (by kernel_rfl) ((c1.own 0 rfl encI_len).cell0 (h830 (by rw [decide_eq_true h836, decide_eq_false h837] <;> rfl)).1 (h830 (by rw [decide_eq_true h836, decide_eq_false h837] <;> rfl)).2 rfl))) ?_
              refine wq_val 46 (by kernel_rfl) (fun w1 c1 => (op_indexA 7 rfl rfl (by kernel_rfl) ((hr_p0.old c1).addr (h831 (by rw [decide_eq_true h836, decide_eq_false h837] <;> rfl)).1 (h831 (by rw [decide_eq_true h836, decide_eq_false h837] <;> rfl)).2) hz_p0.2.2 (h831 (by rw [decide_eq_true h836, decide_eq_false h837] <;> rfl)).1 (h831 (by rw [decide_eq_true h836, decide_eq_false h837] <;> rfl)).2)) ?_
              refine wq_val 47 (by kernel_rfl) (fun w1 c1 => (op_field (m := 3) rfl (by kernel_rfl))) ?_
              refine wq_val 48 (by kernel_rfl) (fun w1 c1 => (op_load (v := .int .i64 ((ix p0 (ix s722.1 (s822 - (1 : Int)))).At)) rfl (by kernel_rfl) ((hr_p0.old c1).cell (j := 3) (h831 (by rw [decide_eq_true h836, decide_eq_false h837] <;> rfl)).1 (h831 (by rw [decide_eq_true h836, decide_eq_false h837] <;> rfl)).2 rfl))) ?_
              refine wq_dec 49 (by kernel_rfl) (fun w1 c1 => (op_eql rfl rfl)) (fun h838 => ?_) (fun h838 => ?_)
              · skip
                refine wq_val 50 (by kernel_rfl) (fun w1 c1 => (op_move (v := .bool true) rfl)) ?_
                refine wq_val 51 (by kernel_rfl) (fun w1 c1 => (op_move (v := .slice _ _ _) rfl)) ?_
                refine wq_val 52 (by kernel_rfl) (fun w1 c1 => (op_move (v := .int .i64 _) rfl)) ?_
                refine wq_val 53 (by kernel_rfl) (fun w1 c1 => (op_indexA 7 rfl rfl (by kernel_rfl) ((hr_p0.old c1).addr (h832 (by rw [decide_eq_true h836, decide_eq_false h837, decide_eq_true h838] <;> rfl)).1 (h832 (by rw [decide_eq_true h836, decide_eq_false h837, decide_eq_true h838] <;> rfl)).2) hz_p0.2.2 (h832 (by rw [decide_eq_true h836, decide_eq_false h837, decide_eq_true h838] <;> rfl)).1 (h832 (by rw [decide_eq_true h836, decide_eq_false h837, decide_eq_true h838] <;> rfl)).2)) ?_
                refine wq_val 54 (by kernel_rfl) (fun w1 c1 => (op_field0 rfl (by kernel_rfl))) ?_
                refine wq_val 55 (by kernel_rfl) (fun w1 c1 => (op_load (v := .int .i64 ((ix p0 s722.2).ID)) rfl (by kernel_rfl) ((hr_p0.old c1).cell0 (h832 (by rw [decide_eq_true h836, decide_eq_false h837, decide_eq_true h838] <;> rfl)).1 (h832 (by rw [decide_eq_true h836, decide_eq_false h837, decide_eq_true h838] <;> rfl)).2 rfl))) ?_
                refine wq_val 56 (by kernel_rfl) (fun w1 c1 => (op_move (v := .slice _ _ _) rfl)) ?_
                refine wq_val 57 (by kernel_rfl) (fun w1 c1 => (op_move (v := .slice _ _ _) rfl)) ?_
                refine wq_val 58 (by kernel_rfl) (fun w1 c1 => (op_move (v := .int .i64 _) rfl)) ?_
                refine wq_val 59 (by kernel_rfl) (fun w1 c1 => (op_sub rfl rfl (h833 (by rw [decide_eq_true h836, decide_eq_false h837, decide_eq_true h838] <;> rfl)))) ?_
                refine wq_val 60 (by kernel_rfl) (fun w1 c1 => (op_indexA 1 rfl rfl (by kernel_rfl) ((c1.own 0 rfl encI_len).addr (h834 (by rw [decide_eq_true h836, decide_eq_false h837, decide_eq_true h838] <;> rfl)).1 (h834 (by rw [decide_eq_true h836, decide_eq_false h837, decide_eq_true h838] <;> rfl)).2) (c1.ownZ 0 rfl).2.2 (h834 (by rw [decide_eq_true h836, decide_eq_false h837, decide_eq_true h838] <;> rfl)).1 (h834 (by rw [decide_eq_true h836, decide_eq_false h837, decide_eq_true h838] <;> rfl)).2)) ?_
                refine wq_val 61 (by kernel_rfl) (fun w1 c1 => (op_load (v := .int .i64 (ix s722.1 (s822 - (1 : Int)))) rfl (by kernel_rfl) ((c1.own 0 rfl encI_len).cell0 (h834 (by rw [decide_eq_true h836, decide_eq_false h837, decide_eq_true h838] <;> rfl)).1 (h834 (by rw [decide_eq_true h836, decide_eq_false h837, decide_eq_true h838] <;> rfl)).2 rfl))) ?_
                refine wq_val 62 (by kernel_rfl) (fun w1 c1 => (op_indexA 7 rfl rfl (by kernel_rfl) ((hr_p0.old c1).addr (h835 (by rw [decide_eq_true h836, decide_eq_false h837, decide_eq_true h838] <;> rfl)).1 (h835 (by rw [decide_eq_true h836, decide_eq_false h837, decide_eq_true h838] <;> rfl)).2) hz_p0.2.2 (h835 (by rw [decide_eq_true h836, decide_eq_false h837, decide_eq_true h838] <;> rfl)).1 (h835 (by rw [decide_eq_true h836, decide_eq_false h837, decide_eq_true h838] <;> rfl)).2)) ?_
                refine wq_val 63 (by kernel_rfl) (fun w1 c1 => (op_field0 rfl (by kernel_rfl))) ?_
                refine wq_val 64 (by kernel_rfl) (fun w1 c1 => (op_load (v := .int .i64 ((ix p0 (ix s722.1 (s822 - (1 : Int)))).ID)) rfl (by kernel_rfl) ((hr_p0.old c1).cell0 (h835 (by rw [decide_eq_true h836, decide_eq_false h837, decide_eq_true h838] <;> rfl)).1 (h835 (by rw [decide_eq_true h836, decide_eq_false h837, decide_eq_true h838] <;> rfl)).2 rfl))) ?_
                refine wq_val 65 (by kernel_rfl) (fun w1 c1 => (op_lss rfl rfl)) ?_
                refine wq_val 66 (by kernel_rfl) (fun w1 c1 => (op_pick_t (v := .bool _) rfl rfl)) ?_
                refine wq_val 67 (by kernel_rfl) (fun w1 c1 => (op_pick_f (v := .bool _) rfl rfl)) ?_
                refine wq_val 68 (by kernel_rfl) (fun w1 c1 => (op_pick_t (v := .bool _) rfl rfl)) ?_
                exact leaf_q (sub_out 53 _ rfl (by kernel_rfl) ⟨(congrArg Value.bool (by rw [decide_eq_true h836, decide_eq_false h837, decide_eq_true h838] <;> rfl)), trivial⟩)
              · skip
                refine wq_val 50 (by kernel_rfl) (fun w1 c1 => (op_move (v := .bool false) rfl)) ?_
                refine wq_skip 51 (by kernel_rfl) ?_
                refine wq_skip 52 (by kernel_rfl) ?_
                refine wq_skip 53 (by kernel_rfl) ?_
                refine wq_skip 54 (by kernel_rfl) ?_
                refine wq_skip 55 (by kernel_rfl) ?_
                refine wq_skip 56 (by kernel_rfl) ?_
                refine wq_skip 57 (by kernel_rfl) ?_
                refine wq_skip 58 (by kernel_rfl) ?_
                refine wq_skip 59 (by kernel_rfl) ?_
                refine wq_skip 60 (by kernel_rfl) ?_
                refine wq_skip 61 (by kernel_rfl) ?_
                refine wq_skip 62 (by kernel_rfl) ?_
                refine wq_skip 63 (by kernel_rfl) ?_
                refine wq_skip 64 (by kernel_rfl) ?_
                refine wq_skip 65 (by kernel_rfl) ?_
                refine wq_val 66 (by kernel_rfl) (fun w1 c1 => (op_pick_f (v := .bool false) rfl rfl)) ?_
                refine wq_val 67 (by kernel_rfl) (fun w1 c1 => (op_pick_f (v := .bool false) rfl rfl)) ?_
                refine wq_val 68 (by kernel_rfl) (fun w1 c1 => (op_pick_t (v := .bool false) rfl rfl)) ?_
                exact leaf_q (sub_out 53 _ rfl (by kernel_rfl) ⟨(congrArg Value.bool (by rw [decide_eq_true h836, decide_eq_false h837, decide_eq_false h838] <;> rfl)), trivial⟩)
          · skip
            refine wq_val 18 (by kernel_rfl) (fun w1 c1 => (op_move (v := .bool false) rfl)) ?_
            refine wq_skip 19 (by kernel_rfl) ?_
            refine wq_skip 20 (by kernel_rfl) ?_
            refine wq_skip 21 (by kernel_rfl) ?_
            refine wq_skip 22 (by kernel_rfl) ?_
            refine wq_skip 23 (by kernel_rfl) ?_
            refine wq_skip 24 (by kernel_rfl) ?_
            refine wq_skip 25 (by kernel_rfl) ?_
            refine wq_skip 26 (by kernel_rfl) ?_
            refine wq_skip 27 (by kernel_rfl) ?_
            refine wq_skip 28 (by kernel_rfl) ?_
            refine wq_skip 29 (by kernel_rfl) ?_
            refine wq_skip 30 (by kernel_rfl) ?_
            refine wq_skip 31 (by kernel_rfl) ?_
            refine wq_skip 32 (by kernel_rfl) ?_
            refine wq_skip 33 (by kernel_rfl) ?_
            refine wq_skip 34 (by kernel_rfl) ?_
            refine wq_skip 35 (by kernel_rfl) ?_
            refine wq_skip 36 (by kernel_rfl) ?_
            refine wq_skip 37 (by kernel_rfl) ?_
            refine wq_skip 38 (by kernel_rfl) ?_
            refine wq_skip 39 (by kernel_rfl) ?_
            refine wq_skip 40 (by kernel_rfl) ?_
            refine wq_skip 41 (by kernel_rfl) ?_
            refine wq_skip 42 (by kernel_rfl) ?_
            refine wq_skip 43 (by kernel_rfl) ?_
            refine wq_skip 44 (by kernel_rfl) ?_
            refine wq_skip 45 (by kernel_rfl) ?_
            refine wq_skip 46 (by kernel_rfl) ?_
            refine wq_skip 47 (by kernel_rfl) ?_
            refine wq_skip 48 (by kernel_rfl) ?_
            refine wq_skip 49 (by kernel_rfl) ?_
            refine wq_skip 50 (by kernel_rfl) ?_
            refine wq_skip 51 (by kernel_rfl) ?_
            refine wq_skip 52 (by kernel_rfl) ?_
            refine wq_skip 53 (by kernel_rfl) ?_
            refine wq_skip 54 (by kernel_rfl) ?_
            refine wq_skip 55 (by kernel_rfl) ?_
            refine wq_skip 56 (by kernel_rfl) ?_
            refine wq_skip 57 (by kernel_rfl) ?_
            refine wq_skip 58 (by kernel_rfl) ?_
            refine wq_skip 59 (by kernel_rfl) ?_
            refine wq_skip 60 (by kernel_rfl) ?_
            refine wq_skip 61 (by kernel_rfl) ?_
            refine wq_skip 62 (by kernel_rfl) ?_
            refine wq_skip 63 (by kernel_rfl) ?_
            refine wq_skip 64 (by kernel_rfl) ?_
            refine wq_skip 65 (by kernel_rfl) ?_
            refine wq_skip 66 (by kernel_rfl) ?_
            refine wq_skip 67 (by kernel_rfl) ?_
            refine wq_val 68 (by kernel_rfl) (fun w1 c1 => (op_pick_f (v := .bool false) rfl rfl)) ?_
            exact leaf_q (sub_out 53 _ rfl (by kernel_rfl) ⟨(congrArg Value.bool (by rw [decide_eq_false h836] <;> rfl)), trivial⟩)
        refine xm_next ?_
        refine cm_condB (by kernel_rfl) rfl (fun h839 => ?_) (fun h839 => ?_)
        · skip
          refine cm_skip ?_
          refine xm_next ?_
          refine cm_block ?_
          refine cm_region ?_
          refine lm_val 69 (by kernel_rfl) (fun w1 c1 => (op_move (v := .int .i64 _) rfl)) ?_
          refine lm_ck (fun h840 => ?_)
          refine lm_val 70 (by kernel_rfl) (fun w1 c1 => (op_sub rfl rfl h840)) ?_
          refine lm_val 5 (by kernel_rfl) (fun w1 c1 => (op_assign (v := .int .i64 _) rfl)) ?_
          refine lm_nil ?_
          refine xm_inN ?_
          exact xm_lnext () (sub_cons (by kernel_rfl) rfl (sub_cons (by kernel_rfl) rfl (sub_cons (by kernel_rfl) rfl (sub_cons (by kernel_rfl) rfl sub_nil)))) (hsub [0] (by kernel_rfl) rfl)
        · skip
          refine cm_exit ?_
          refine xm_thenE ?_
          refine xm_lexit ?_
          refine xm_here ?_
          exact xm_lnext () (sub_cons (by kernel_rfl) rfl (sub_cons (by kernel_rfl) rfl (sub_cons (by kernel_rfl) rfl (sub_cons (by kernel_rfl) rfl sub_nil)))) (hsub [0] (by kernel_rfl) rfl)
      intro s782 u783
      refine cm_seq ?_
      refine cm_region ?_
      refine lm_slice0 71 (el := 3) (sz := 1) (bytes := 8) (enc := encI) (by kernel_rfl) (by kernel_rfl) ?_
      intro A841 n842 k843 h844
      refine lm_val 72 (by kernel_rfl) (fun w1 c1 => (op_move (v := .slice _ _ _) rfl)) ?_
      refine lm_val 73 (by kernel_rfl) (fun w1 c1 => (op_move (v := .int .i64 _) rfl)) ?_
      refine lm_ck (fun h845 => ?_)
      refine lm_val 74 (by kernel_rfl) (fun w1 c1 => (op_sliceFrom (l := s722.1) 1 rfl rfl (by kernel_rfl) (by kernel_rfl) (c1.ownZ 1 rfl) h845.1 h845.2)) ?_
      refine lm_ck (fun h846 => ?_)
      refine lm_append 75 0 (el := 3) (sz := 1) (bytes := 8) (enc := encI) (l2 := (List.drop (Int.toNat s782) s722.1)) (by kernel_rfl) (by kernel_rfl) encI_len encI_one rfl rfl rfl (fun w1 c1 => ((c1.ownZ 1 rfl).drop h845.1 h845.2)) (fun w1 c1 => ((c1.own 1 rfl encI_len).drop (c1.ownZ 1 rfl) h845.1 h845.2)) h846 ?_ (by kernel_rfl)
      intro A847 n848 k849
      refine lm_val 6 (by kernel_rfl) (fun w1 c1 => (op_assign (v := .slice _ _ _) rfl)) ?_
      refine lm_nil ?_
      refine xm_next ?_
      refine cm_region ?_
      refine lm_val 76 (by kernel_rfl) (fun w1 c1 => (op_move (v := .slice _ _ _) rfl)) ?_
      refine lm_val 77 (by kernel_rfl) (fun w1 c1 => (op_move (v := .int .i64 _) rfl)) ?_
      refine lm_val 78 (by kernel_rfl) (fun w1 c1 => (op_move (v := .int .i64 _) rfl)) ?_
      refine lm_ck (fun h850 => ?_)
      refine lm_val 79 (by kernel_rfl) (fun w1 c1 => (op_slice3 (l := s722.1) rfl rfl rfl (by kernel_rfl) (by kernel_rfl) ((c1.own 1 rfl encI_len).some_ (c1.ownZ 1 rfl)) (c1.ownZ 1 rfl) h850.1 h850.2)) ?_
      refine lm_val 80 (by kernel_rfl) (fun w1 c1 => (op_move (v := .int .i64 _) rfl)) ?_
      refine lm_slice1 81 (el := 3) (sz := 1) (bytes := 8) (enc := encI) s722.2 (by kernel_rfl) (by kernel_rfl) encI_len rfl (by kernel_rfl) ?_
      intro A851 n852 k853 h854
      refine lm_ck (fun h855 => ?_)
      refine lm_ck (fun h856 => ?_)
      refine lm_appendF 82 (el := 3) (sz := 1) (bytes := 8) (enc := encI) (l := (List.take (Int.toNat s782) s722.1)) (l2 := ([s722.2])) (by kernel_rfl) (by kernel_rfl) encI_len rfl (fun w1 c1 => ((c1.ownZ 2 rfl).take3 h850.1 h850.2)) (fun w1 c1 => ((c1.own 2 rfl encI_len).take3 h850.1 h850.2)) rfl (fun w1 c1 => (c1.ownZ 0 rfl)) (fun w1 c1 => (c1.own 0 rfl encI_len)) h855 h856 (by kernel_rfl) ?_
      intro A857 n858 k859
      refine lm_val 83 (by kernel_rfl) (fun w1 c1 => (op_move (v := .slice _ _ _) rfl)) ?_
      refine lm_ck (fun h860 => ?_)
      refine lm_append 84 0 (el := 3) (sz := 1) (bytes := 8) (enc := encI) (l2 := (([] : List Int) ++ (List.drop (Int.toNat s782) s722.1))) (by kernel_rfl) (by kernel_rfl) encI_len encI_one rfl rfl rfl (fun w1 c1 => (c1.ownZ 2 rfl)) (fun w1 c1 => (c1.own 2 rfl encI_len)) h860 ?_ (by kernel_rfl)
      intro A861 n862 k863
      refine lm_val 3 (by kernel_rfl) (fun w1 c1 => (op_assign (v := .slice _ _ _) rfl)) ?_
      refine lm_nil ?_
      refine xm_inN ?_
      refine xm_next ?_
      refine cm_region ?_
      refine lm_val 12 (by kernel_rfl) (fun w1 c1 => (op_move (v := .int .i64 _) rfl)) ?_
      refine lm_ck (fun h864 => ?_)
      refine lm_val 13 (by kernel_rfl) (fun w1 c1 => (op_add rfl rfl h864)) ?_
      refine lm_val 4 (by kernel_rfl) (fun w1 c1 => (op_assign (v := .int .i64 _) rfl)) ?_
      refine lm_nil ?_
      exact xm_lnext (A861, n862, k863) (sub_cons (by kernel_rfl) rfl (sub_cons (by kernel_rfl) rfl (sub_cons (by kernel_rfl) rfl sub_nil))) (hsub [0] (by kernel_rfl) rfl)
    · skip
      refine cm_exit ?_
      refine xm_thenE ?_
      refine xm_lexit ?_
      refine xm_here ?_
      exact xm_lnext (u723.1, u723.2.1, u723.2.2) (sub_cons (by kernel_rfl) rfl sub_nil) (hsub [0] (by kernel_rfl) rfl)
  intro s434 u435
  refine cm_seq ?_
  refine cm_region ?_
  refine lm_val 85 (by kernel_rfl) (fun w1 c1 => (op_move (v := .slice _ _ _) rfl)) ?_
  refine lm_val 2 (by kernel_rfl) (fun w1 c1 => (op_assign (v := .slice _ _ _) rfl)) ?_
  refine lm_nil ?_
  refine xm_next ?_
  refine cm_ret ?_
  exact xm_retT rfl (by kernel_rfl) (show _ = Value.slice _ _ _ from rfl) fun w1 c1 => ⟨(u435.1, u435.2.1, u435.2.2), rfl, hsub [0] (by kernel_rfl) rfl w1 c1⟩
/-- recyclingref18.counting -/
def m_recyclingref18_counting (N : Nat) (p0 : (List ApiEmptying)) (p1 : Int) : Option ((List Int)) :=
  Option.bind (m_recyclingref18_ordered N p0) fun r1 => (andThen
    (loopM (fun (s785 : (List Int) × Int) =>
      (if s785.2 < (List.length r1 : Int) then
        (andThen
          (ck ((0 : Int) ≤ s785.2 ∧ s785.2 < (List.length r1 : Int)) (
            ck ((0 : Int) ≤ (ix r1 s785.2) ∧ (ix r1 s785.2) < (List.length p0 : Int)) (
              (andThen
                (loopM (fun (s920 : Bool × Int) =>
                  (if s920.2 < (List.length s785.1 : Int) then
                    ck ((0 : Int) ≤ s920.2 ∧ s920.2 < (List.length s785.1 : Int)) (
                      ck ((0 : Int) ≤ (ix s785.1 s920.2) ∧ (ix s785.1 s920.2) < (List.length p0 : Int)) (
                        ck ((s920.1 && (!(decide ((ix p0 (ix s785.1 s920.2)).Container ≠ (ix p0 (ix r1 s785.2)).Container)))) = true → I64 (((ix p0 (ix r1 s785.2)).At) - ((ix p0 (ix s785.1 s920.2)).At))) (
                          ck (I64 (s920.2 + (1 : Int))) (
                            some (.next ((s920.1 && ((decide ((ix p0 (ix s785.1 s920.2)).Container ≠ (ix p0 (ix r1 s785.2)).Container)) || (decide (p1 < (((ix p0 (ix r1 s785.2)).At) - ((ix p0 (ix s785.1 s920.2)).At)))))), (s920.2 + (1 : Int))))))))
                  else
                    some (.done (.next s920.1)))) N ((!((ix p0 (ix r1 s785.2)).Void)), (0 : Int)))
              fun (s898 : Bool) =>
                (if s898 = true then
                  ck ((0 : Int) ≤ s785.2 ∧ s785.2 < (List.length r1 : Int)) (
                    ck ((List.length s785.1 + List.length ([(ix r1 s785.2)])) * 8 ≤ 140737488355328) (
                      some (.next (s785.1 ++ ([(ix r1 s785.2)])))))
                else
                  some (.next s785.1))))))
        fun (s863 : (List Int)) =>
          ck (I64 (s785.2 + (1 : Int))) (
            some (.next (s863, (s785.2 + (1 : Int))))))
      else
        some (.done (.next s785.1)))) N (([] : List Int), (0 : Int)))
  fun (s471 : (List Int)) =>
    some (s471))
set_option maxRecDepth 20000 in
theorem m_recyclingref18_counting_ok (N : Nat) (w0 : World) (p0 : (List ApiEmptying)) (p1 : Int) (A_p0 : Option Addr) (n_p0 c_p0 : Nat) (hr_p0 : RdE w0 7 encApiEmptying A_p0 p0) (hz_p0 : SW A_p0 n_p0 c_p0 (List.length p0)) (r : (List Int)) (hr : m_recyclingref18_counting N p0 p1 = some r) :
    Calls Try.prog 27 [.slice A_p0 n_p0 c_p0, .int .i64 p1].toArray w0 fun x w1 => ∃ u, x = .returned ((fun (_r : (List Int)) (u : (Option Addr) × Nat × Nat) => .slice u.1 u.2.1 u.2.2) r u) ∧ Hs w0 ((fun (r : (List Int)) (u : (Option Addr) × Nat × Nat) => [ownE 3 1 encI u.1 u.2.1 u.2.2 r]) r u) w1 := by
  refine calls_cm (n := 69) (R := fun r x w1 => ∃ u, x = .returned ((fun (_r : (List Int)) (u : (Option Addr) × Nat × Nat) => .slice u.1 u.2.1 u.2.2) r u) ∧ Hs w0 ((fun (r : (List Int)) (u : (Option Addr) × Nat × Nat) => [ownE 3 1 encI u.1 u.2.1 u.2.2 r]) r u) w1) Try.func27 rfl rfl (Nat.le_of_ble_eq_true rfl) ?_ r hr
  unfold m_recyclingref18_counting
  refine cm_seq ?_
  refine cm_region ?_
  refine lm_val 4 (by kernel_rfl) (fun w1 c1 => (op_assign (v := .slice _ _ _) rfl)) ?_
  refine lm_nil ?_
  refine xm_next ?_
  refine cm_seq ?_
  refine cm_region ?_
  refine lm_val 5 (by kernel_rfl) (fun w1 c1 => (op_assign (v := .slice _ _ _) rfl)) ?_
  refine lm_nil ?_
  refine xm_next ?_
  refine cm_seq ?_
  refine cm_region ?_
  refine lm_val 12 (by kernel_rfl) (fun w1 c1 => (op_move (v := .slice _ _ _) rfl)) ?_
  refine lm_call 13 (V := (fun (_r : (List Int)) (u : (Option Addr) × Nat × Nat) => .slice u.1 u.2.1 u.2.2)) (HR := (fun (r : (List Int)) (u : (Option Addr) × Nat × Nat) => [ownE 3 1 encI u.1 u.2.1 u.2.2 r])) (by kernel_rfl) (fun w1 => op_call (by kernel_rfl)) (fun r1 hr1 w1 c1 => m_recyclingref18_ordered_ok N w1 p0 A_p0 n_p0 c_p0 (hr_p0.old c1) hz_p0 r1 hr1) ?_
  intro r1 u2
  refine lm_val 6 (by kernel_rfl) (fun w1 c1 => (op_assign (v := .slice _ _ _) rfl)) ?_
  refine lm_nil ?_
  refine xm_next ?_
  refine cm_join (σ := (List Int)) (ξ := (Option Addr) × Nat × Nat) (fun s471 u472 => [(5, .slice u472.1 u472.2.1 u472.2.2)]) (fun s471 u472 => [ownE 3 1 encI u472.1 u472.2.1 u472.2.2 s471]) ?_ ?_
  · skip
    refine cm_seq ?_
    refine cm_region ?_
    refine lm_val 7 (by kernel_rfl) (fun w1 c1 => (op_assign (v := .int .i64 _) rfl)) ?_
    refine lm_nil ?_
    refine xm_next ?_
    refine cm_block ?_
    refine cm_nilrow 3 1 encI ?_
    refine cm_loop (σ := (List Int) × Int) (ξ := (Option Addr) × Nat × Nat) (fun s785 u786 => [(0, .slice A_p0 n_p0 c_p0), (1, .int .i64 p1), (5, .slice u786.1 u786.2.1 u786.2.2), (6, .slice u2.1 u2.2.1 u2.2.2), (7, .int .i64 s785.2)]) (fun s785 u786 => [ownE 3 1 encI u786.1 u786.2.1 u786.2.2 s785.1, ownE 3 1 encI u2.1 u2.2.1 u2.2.2 r1]) (none, 0, 0) ?_ ?_ ?_
    · exact (sub_cons (by kernel_rfl) rfl (sub_cons (by kernel_rfl) rfl (sub_cons (by kernel_rfl) rfl (sub_cons (by kernel_rfl) rfl (sub_cons (by kernel_rfl) rfl sub_nil)))))
    · exact hsub [0, 1] (by kernel_rfl) rfl
    intro s785 u786
    refine cm_seq ?_
    refine cm_seq ?_
    refine cm_region ?_
    refine lm_val 14 (by kernel_rfl) (fun w1 c1 => (op_move (v := .int .i64 _) rfl)) ?_
    refine lm_val 15 (by kernel_rfl) (fun w1 c1 => (op_move (v := .slice _ _ _) rfl)) ?_
    refine lm_val 16 (by kernel_rfl) (fun w1 c1 => (op_lenN rfl (by kernel_rfl) (c1.ownZ 1 rfl).2.2)) ?_
    refine lm_val 17 (by kernel_rfl) (fun w1 c1 => (op_lss rfl rfl)) ?_
    refine lm_nil ?_
    refine xm_next ?_
    refine cm_cond (by kernel_rfl) rfl (fun h787 => ?_) (fun h787 => ?_)
    · skip
      refine cm_skip ?_
      refine xm_next ?_
      refine cm_join (σ := (List Int)) (ξ := (Option Addr) × Nat × Nat) (fun s863 u864 => [(0, .slice A_p0 n_p0 c_p0), (1, .int .i64 p1), (5, .slice u864.1 u864.2.1 u864.2.2), (6, .slice u2.1 u2.2.1 u2.2.2), (7, .int .i64 s785.2)]) (fun s863 u864 => [ownE 3 1 encI u864.1 u864.2.1 u864.2.2 s863, ownE 3 1 encI u2.1 u2.2.1 u2.2.2 r1]) ?_ ?_
      · skip
        refine cm_block ?_
        refine cm_seq ?_
        refine cm_region ?_
        refine lm_val 20 (by kernel_rfl) (fun w1 c1 => (op_move (v := .slice _ _ _) rfl)) ?_
        refine lm_val 21 (by kernel_rfl) (fun w1 c1 => (op_move (v := .slice _ _ _) rfl)) ?_
        refine lm_val 22 (by kernel_rfl) (fun w1 c1 => (op_move (v := .int .i64 _) rfl)) ?_
        refine lm_ck (fun h865 => ?_)
        refine lm_val 23 (by kernel_rfl) (fun w1 c1 => (op_indexA 1 rfl rfl (by kernel_rfl) ((c1.own 1 rfl encI_len).addr h865.1 h865.2) (c1.ownZ 1 rfl).2.2 h865.1 h865.2)) ?_
        refine lm_val 24 (by kernel_rfl) (fun w1 c1 => (op_load (v := .int .i64 (ix r1 s785.2)) rfl (by kernel_rfl) ((c1.own 1 rfl encI_len).cell0 h865.1 h865.2 rfl))) ?_
        refine lm_ck (fun h866 => ?_)
        refine lm_val 25 (by kernel_rfl) (fun w1 c1 => (op_indexA 7 rfl rfl (by kernel_rfl) ((hr_p0.old c1).addr h866.1 h866.2) hz_p0.2.2 h866.1 h866.2)) ?_
        refine lm_val 26 (by kernel_rfl) (fun w1 c1 => (op_loadR [.int .i64 ((ix p0 (ix r1 s785.2)).ID), .int .i64 ((ix p0 (ix r1 s785.2)).Container), .int .i64 ((ix p0 (ix r1 s785.2)).Vehicle), .int .i64 ((ix p0 (ix r1 s785.2)).At), .int .i64 ((ix p0 (ix r1 s785.2)).Mass.Lo), .int .i64 ((ix p0 (ix r1 s785.2)).Mass.Hi), .bool ((ix p0 (ix r1 s785.2)).Void)] rfl (by kernel_rfl) ((hr_p0.old c1).row h866.1 h866.2))) ?_
        refine lm_alloc 8 [.int .i64 0, .int .i64 0, .int .i64 0, .int .i64 0, .int .i64 0, .int .i64 0, .bool false] (v := .agg #[.int .i64 0, .int .i64 0, .int .i64 0, .int .i64 0, .int .i64 0, .int .i64 0, .bool false]) (by kernel_rfl) (by kernel_rfl) rfl ?_
        intro b867
        refine lm_storeA 0 [.int .i64 _, .int .i64 _, .int .i64 _, .int .i64 _, .int .i64 _, .int .i64 _, .bool _] [_, _, _, _, _, _, _] (H' := [blkE _ _ [_, _, _, _, _, _, _], _, _]) (by kernel_rfl) rfl rfl (by kernel_rfl) rfl rfl (by kernel_rfl) rfl rfl ?_
        refine lm_nil ?_
        refine xm_next ?_
        refine cm_seq ?_
        refine cm_region ?_
        refine lm_val 27 (by kernel_rfl) (fun w1 c1 => (op_fieldL (m := 6) (k := 6) rfl (by kernel_rfl) rfl)) ?_
        refine lm_val 28 (by kernel_rfl) (fun w1 c1 => (op_load rfl (by kernel_rfl) (c1.cell 0 (u := .bool _) rfl rfl))) ?_
        refine lm_val 29 (by kernel_rfl) (fun w1 c1 => (op_not rfl)) ?_
        refine lm_val 9 (by kernel_rfl) (fun w1 c1 => (op_assign (v := .bool _) rfl)) ?_
        refine lm_nil ?_
        refine xm_next ?_
        refine cm_join (σ := Bool) (ξ := Unit) (fun s898 u899 => [(0, .slice A_p0 n_p0 c_p0), (1, .int .i64 p1), (5, .slice u786.1 u786.2.1 u786.2.2), (6, .slice u2.1 u2.2.1 u2.2.2), (7, .int .i64 s785.2), (9, .bool s898)]) (fun s898 u899 => [ownE 3 1 encI u786.1 u786.2.1 u786.2.2 s785.1, ownE 3 1 encI u2.1 u2.2.1 u2.2.2 r1]) ?_ ?_
        · skip
          refine cm_seq ?_
          refine cm_region ?_
          refine lm_val 10 (by kernel_rfl) (fun w1 c1 => (op_assign (v := .int .i64 _) rfl)) ?_
          refine lm_nil ?_
          refine xm_next ?_
          refine cm_block ?_
          refine cm_loop (σ := Bool × Int) (ξ := Unit) (fun s920 u921 => [(0, .slice A_p0 n_p0 c_p0), (1, .int .i64 p1), (5, .slice u786.1 u786.2.1 u786.2.2), (6, .slice u2.1 u2.2.1 u2.2.2), (7, .int .i64 s785.2), (8, .pointer (some ⟨b867, 0, none⟩)), (9, .bool s920.1), (10, .int .i64 s920.2)]) (fun s920 u921 => [ownE 3 1 encI u786.1 u786.2.1 u786.2.2 s785.1, ownE 3 1 encI u2.1 u2.2.1 u2.2.2 r1, blkE b867 47 [.int .i64 ((ix p0 (ix r1 s785.2)).ID), .int .i64 ((ix p0 (ix r1 s785.2)).Container), .int .i64 ((ix p0 (ix r1 s785.2)).Vehicle), .int .i64 ((ix p0 (ix r1 s785.2)).At), .int .i64 ((ix p0 (ix r1 s785.2)).Mass.Lo), .int .i64 ((ix p0 (ix r1 s785.2)).Mass.Hi), .bool ((ix p0 (ix r1 s785.2)).Void)]]) () ?_ ?_ ?_
          · exact (sub_cons (by kernel_rfl) rfl (sub_cons (by kernel_rfl) rfl (sub_cons (by kernel_rfl) rfl (sub_cons (by kernel_rfl) rfl (sub_cons (by kernel_rfl) rfl (sub_cons (by kernel_rfl) rfl (sub_cons (by kernel_rfl) rfl (sub_cons (by kernel_rfl) rfl sub_nil))))))))
          · exact hsub [1, 2, 0] (by kernel_rfl) rfl
          intro s920 u921
          refine cm_seq ?_
          refine cm_seq ?_
          refine cm_region ?_
          refine lm_val 30 (by kernel_rfl) (fun w1 c1 => (op_move (v := .int .i64 _) rfl)) ?_
          refine lm_val 31 (by kernel_rfl) (fun w1 c1 => (op_move (v := .slice _ _ _) rfl)) ?_
          refine lm_val 32 (by kernel_rfl) (fun w1 c1 => (op_lenN rfl (by kernel_rfl) (c1.ownZ 0 rfl).2.2)) ?_
          refine lm_val 33 (by kernel_rfl) (fun w1 c1 => (op_lss rfl rfl)) ?_
          refine lm_nil ?_
          refine xm_next ?_
          refine cm_cond (by kernel_rfl) rfl (fun h922 => ?_) (fun h922 => ?_)
          · skip
            refine cm_skip ?_
            refine xm_next ?_
            refine cm_seq ?_
            refine cm_block ?_
            refine cm_seq ?_
            refine cm_region ?_
            refine lm_val 36 (by kernel_rfl) (fun w1 c1 => (op_move (v := .slice _ _ _) rfl)) ?_
            refine lm_val 37 (by kernel_rfl) (fun w1 c1 => (op_move (v := .slice _ _ _) rfl)) ?_
            refine lm_val 38 (by kernel_rfl) (fun w1 c1 => (op_move (v := .int .i64 _) rfl)) ?_
            refine lm_ck (fun h923 => ?_)
            refine lm_val 39 (by kernel_rfl) (fun w1 c1 => (op_indexA 1 rfl rfl (by kernel_rfl) ((c1.own 0 rfl encI_len).addr h923.1 h923.2) (c1.ownZ 0 rfl).2.2 h923.1 h923.2)) ?_
            refine lm_val 40 (by kernel_rfl) (fun w1 c1 => (op_load (v := .int .i64 (ix s785.1 s920.2)) rfl (by kernel_rfl) ((c1.own 0 rfl encI_len).cell0 h923.1 h923.2 rfl))) ?_
            refine lm_ck (fun h924 => ?_)
            refine lm_val 41 (by kernel_rfl) (fun w1 c1 => (op_indexA 7 rfl rfl (by kernel_rfl) ((hr_p0.old c1).addr h924.1 h924.2) hz_p0.2.2 h924.1 h924.2)) ?_
            refine lm_val 42 (by kernel_rfl) (fun w1 c1 => (op_loadR [.int .i64 ((ix p0 (ix s785.1 s920.2)).ID), .int .i64 ((ix p0 (ix s785.1 s920.2)).Container), .int .i64 ((ix p0 (ix s785.1 s920.2)).Vehicle), .int .i64 ((ix p0 (ix s785.1 s920.2)).At), .int .i64 ((ix p0 (ix s785.1 s920.2)).Mass.Lo), .int .i64 ((ix p0 (ix s785.1 s920.2)).Mass.Hi), .bool ((ix p0 (ix s785.1 s920.2)).Void)] rfl (by kernel_rfl) ((hr_p0.old c1).row h924.1 h924.2))) ?_
            refine lm_alloc 11 [.int .i64 0, .int .i64 0, .int .i64 0, .int .i64 0, .int .i64 0, .int .i64 0, .bool false] (v := .agg #[.int .i64 0, .int .i64 0, .int .i64 0, .int .i64 0, .int .i64 0, .int .i64 0, .bool false]) (by kernel_rfl) (by kernel_rfl) rfl ?_
            intro b925
            refine lm_storeA 0 [.int .i64 _, .int .i64 _, .int .i64 _, .int .i64 _, .int .i64 _, .int .i64 _, .bool _] [_, _, _, _, _, _, _] (H' := [blkE _ _ [_, _, _, _, _, _, _], _, _, _]) (by kernel_rfl) rfl rfl (by kernel_rfl) rfl rfl (by kernel_rfl) rfl rfl ?_
            refine lm_nil ?_
            refine xm_next ?_
            refine cm_ck (fun h926 => ?_)
            refine cm_of_then ?_
            refine cm_cutE [(9, .bool (s920.1 && ((decide ((ix p0 (ix s785.1 s920.2)).Container ≠ (ix p0 (ix r1 s785.2)).Container)) || (decide (p1 < (((ix p0 (ix r1 s785.2)).At) - ((ix p0 (ix s785.1 s920.2)).At)))))))] ?_ ?_
            · skip
              refine wq_bool 43 (by kernel_rfl) (fun w1 c1 => (op_move (v := .bool _) rfl)) (fun h927 => ?_) (fun h927 => ?_)
              · skip
                refine wq_val 44 (by kernel_rfl) (fun w1 c1 => (op_move (v := .bool true) rfl)) ?_
                refine wq_val 45 (by kernel_rfl) (fun w1 c1 => (op_fieldL (m := 1) (k := 1) rfl (by kernel_rfl) rfl)) ?_
                refine wq_val 46 (by kernel_rfl) (fun w1 c1 => (op_load rfl (by kernel_rfl) (c1.cell 0 (u := .int .i64 _) rfl rfl))) ?_
                refine wq_val 47 (by kernel_rfl) (fun w1 c1 => (op_fieldL (m := 1) (k := 1) rfl (by kernel_rfl) rfl)) ?_
                refine wq_val 48 (by kernel_rfl) (fun w1 c1 => (op_load rfl (by kernel_rfl) (c1.cell 3 (u := .int .i64 _) rfl rfl))) ?_
                refine wq_dec 49 (by kernel_rfl) (fun w1 c1 => (op_neq rfl rfl)) (fun h928 => ?_) (fun h928 => ?_)
                · skip
                  refine wq_val 50 (by kernel_rfl) (fun w1 c1 => (op_move (v := .bool true) rfl)) ?_
                  refine wq_skip 51 (by kernel_rfl) ?_
                  refine wq_skip 52 (by kernel_rfl) ?_
                  refine wq_skip 53 (by kernel_rfl) ?_
                  refine wq_skip 54 (by kernel_rfl) ?_
                  refine wq_skip 55 (by kernel_rfl) ?_
                  refine wq_skip 56 (by kernel_rfl) ?_
                  refine wq_skip 57 (by kernel_rfl) ?_
                  refine wq_val 58 (by kernel_rfl) (fun w1 c1 => (op_pick_t (v := .bool true) rfl rfl)) ?_
                  refine wq_val 59 (by kernel_rfl) (fun w1 c1 => (op_pick_t (v := .bool true) rfl rfl)) ?_
                  refine wq_val 9 (by kernel_rfl) (fun w1 c1 => (op_assign (v := .bool true) rfl)) ?_
                  exact leaf_q (sub_out 18 _ rfl (by kernel_rfl) ⟨(congrArg Value.bool (by rw [h927, decide_eq_true h928] <;> rfl)), trivial⟩)
                · skip
                  refine wq_val 50 (by kernel_rfl) (fun w1 c1 => (op_move (v := .bool false) rfl)) ?_
                  refine wq_val 51 (by kernel_rfl) (fun w1 c1 => (op_fieldL (m := 3) (k := 3) rfl (by kernel_rfl) rfl)) ?_
                  refine wq_val 52 (by kernel_rfl) (fun w1 c1 => (op_load rfl (by kernel_rfl) (c1.cell 3 (u := .int .i64 _) rfl rfl))) ?_
                  refine wq_val 53 (by kernel_rfl) (fun w1 c1 => (op_fieldL (m := 3) (k := 3) rfl (by kernel_rfl) rfl)) ?_
                  refine wq_val 54 (by kernel_rfl) (fun w1 c1 => (op_load rfl (by kernel_rfl) (c1.cell 0 (u := .int .i64 _) rfl rfl))) ?_
                  refine wq_val 55 (by kernel_rfl) (fun w1 c1 => (op_sub rfl rfl (h926 (by rw [h927, decide_eq_false h928] <;> rfl)))) ?_
                  refine wq_val 56 (by kernel_rfl) (fun w1 c1 => (op_move (v := .int .i64 _) rfl)) ?_
                  refine wq_val 57 (by kernel_rfl) (fun w1 c1 => (op_gtr rfl rfl)) ?_
                  refine wq_val 58 (by kernel_rfl) (fun w1 c1 => (op_pick_f (v := .bool _) rfl rfl)) ?_
                  refine wq_val 59 (by kernel_rfl) (fun w1 c1 => (op_pick_t (v := .bool _) rfl rfl)) ?_
                  refine wq_val 9 (by kernel_rfl) (fun w1 c1 => (op_assign (v := .bool _) rfl)) ?_
                  exact leaf_q (sub_out 18 _ rfl (by kernel_rfl) ⟨(congrArg Value.bool (by rw [h927, decide_eq_false h928] <;> rfl)), trivial⟩)
              · skip
                refine wq_val 44 (by kernel_rfl) (fun w1 c1 => (op_move (v := .bool false) rfl)) ?_
                refine wq_skip 45 (by kernel_rfl) ?_
                refine wq_skip 46 (by kernel_rfl) ?_
                refine wq_skip 47 (by kernel_rfl) ?_
                refine wq_skip 48 (by kernel_rfl) ?_
                refine wq_skip 49 (by kernel_rfl) ?_
                refine wq_skip 50 (by kernel_rfl) ?_
                refine wq_skip 51 (by kernel_rfl) ?_
                refine wq_skip 52 (by kernel_rfl) ?_
                refine wq_skip 53 (by kernel_rfl) ?_
                refine wq_skip 54 (by kernel_rfl) ?_
                refine wq_skip 55 (by kernel_rfl) ?_
                refine wq_skip 56 (by kernel_rfl) ?_
                refine wq_skip 57 (by kernel_rfl) ?_
                refine wq_skip 58 (by kernel_rfl) ?_
                refine wq_val 59 (by kernel_rfl) (fun w1 c1 => (op_pick_f (v := .bool false) rfl rfl)) ?_
                refine wq_val 9 (by kernel_rfl) (fun w1 c1 => (op_assign (v := .bool false) rfl)) ?_
                exact leaf_q (sub_out 18 _ rfl (by kernel_rfl) ⟨(congrArg Value.bool (by rw [h927] <;> rfl)), trivial⟩)
            refine xm_of_then ?_
            refine xm_inN ?_
            refine xm_next ?_
            refine cm_region ?_
            refine lm_val 34 (by kernel_rfl) (fun w1 c1 => (op_move (v := .int .i64 _) rfl)) ?_
            refine lm_ck (fun h929 => ?_)
            refine lm_val 35 (by kernel_rfl) (fun w1 c1 => (op_add rfl rfl h929)) ?_
            refine lm_val 10 (by kernel_rfl) (fun w1 c1 => (op_assign (v := .int .i64 _) rfl)) ?_
            refine lm_nil ?_
            exact xm_lnext () (sub_cons (by kernel_rfl) rfl (sub_cons (by kernel_rfl) rfl (sub_cons (by kernel_rfl) rfl (sub_cons (by kernel_rfl) rfl (sub_cons (by kernel_rfl) rfl (sub_cons (by kernel_rfl) rfl (sub_cons (by kernel_rfl) rfl (sub_cons (by kernel_rfl) rfl sub_nil)))))))) (hsub [1, 2, 3] (by kernel_rfl) rfl)
          · skip
            refine cm_exit ?_
            refine xm_thenE ?_
            refine xm_lexit ?_
            refine xm_here ?_
            exact xm_lnext () (sub_cons (by kernel_rfl) rfl (sub_cons (by kernel_rfl) rfl (sub_cons (by kernel_rfl) rfl (sub_cons (by kernel_rfl) rfl (sub_cons (by kernel_rfl) rfl (sub_cons (by kernel_rfl) rfl sub_nil)))))) (hsub [0, 1] (by kernel_rfl) rfl)
        intro s898 u899
        refine cm_seq ?_
        refine cm_region ?_
        refine lm_val 60 (by kernel_rfl) (fun w1 c1 => (op_move (v := .bool _) rfl)) ?_
        refine lm_nil ?_
        refine xm_next ?_
        refine cm_condB (by kernel_rfl) rfl (fun h930 => ?_) (fun h930 => ?_)
        · skip
          refine cm_region ?_
          refine lm_val 61 (by kernel_rfl) (fun w1 c1 => (op_move (v := .slice _ _ _) rfl)) ?_
          refine lm_val 62 (by kernel_rfl) (fun w1 c1 => (op_move (v := .slice _ _ _) rfl)) ?_
          refine lm_val 63 (by kernel_rfl) (fun w1 c1 => (op_move (v := .int .i64 _) rfl)) ?_
          refine lm_ck (fun h931 => ?_)
          refine lm_val 64 (by kernel_rfl) (fun w1 c1 => (op_indexA 1 rfl rfl (by kernel_rfl) ((c1.own 1 rfl encI_len).addr h931.1 h931.2) (c1.ownZ 1 rfl).2.2 h931.1 h931.2)) ?_
          refine lm_val 65 (by kernel_rfl) (fun w1 c1 => (op_load (v := .int .i64 (ix r1 s785.2)) rfl (by kernel_rfl) ((c1.own 1 rfl encI_len).cell0 h931.1 h931.2 rfl))) ?_
          refine lm_slice1 66 (el := 3) (sz := 1) (bytes := 8) (enc := encI) (ix r1 s785.2) (by kernel_rfl) (by kernel_rfl) encI_len rfl (by kernel_rfl) ?_
          intro A932 n933 k934 h935
          refine lm_ck (fun h936 => ?_)
          refine lm_append 67 1 (el := 3) (sz := 1) (bytes := 8) (enc := encI) (l2 := ([(ix r1 s785.2)])) (by kernel_rfl) (by kernel_rfl) encI_len encI_one rfl rfl rfl (fun w1 c1 => (c1.ownZ 0 rfl)) (fun w1 c1 => (c1.own 0 rfl encI_len)) h936 ?_ (by kernel_rfl)
          intro A937 n938 k939
          refine lm_val 5 (by kernel_rfl) (fun w1 c1 => (op_assign (v := .slice _ _ _) rfl)) ?_
          refine lm_nil ?_
          refine xm_inN ?_
          exact xm_lnext (A937, n938, k939) (sub_cons (by kernel_rfl) rfl (sub_cons (by kernel_rfl) rfl (sub_cons (by kernel_rfl) rfl (sub_cons (by kernel_rfl) rfl (sub_cons (by kernel_rfl) rfl sub_nil))))) (hsub [1, 2] (by kernel_rfl) rfl)
        · skip
          refine cm_skip ?_
          refine xm_inN ?_
          exact xm_lnext (u786.1, u786.2.1, u786.2.2) (sub_cons (by kernel_rfl) rfl (sub_cons (by kernel_rfl) rfl (sub_cons (by kernel_rfl) rfl (sub_cons (by kernel_rfl) rfl (sub_cons (by kernel_rfl) rfl sub_nil))))) (hsub [0, 1] (by kernel_rfl) rfl)
      intro s863 u864
      refine cm_region ?_
      refine lm_val 18 (by kernel_rfl) (fun w1 c1 => (op_move (v := .int .i64 _) rfl)) ?_
      refine lm_ck (fun h940 => ?_)
      refine lm_val 19 (by kernel_rfl) (fun w1 c1 => (op_add rfl rfl h940)) ?_
      refine lm_val 7 (by kernel_rfl) (fun w1 c1 => (op_assign (v := .int .i64 _) rfl)) ?_
      refine lm_nil ?_
      exact xm_lnext (u864.1, u864.2.1, u864.2.2) (sub_cons (by kernel_rfl) rfl (sub_cons (by kernel_rfl) rfl (sub_cons (by kernel_rfl) rfl (sub_cons (by kernel_rfl) rfl (sub_cons (by kernel_rfl) rfl sub_nil))))) (hsub [0, 1] (by kernel_rfl) rfl)
    · skip
      refine cm_exit ?_
      refine xm_thenE ?_
      refine xm_lexit ?_
      refine xm_here ?_
      exact xm_lnext (u786.1, u786.2.1, u786.2.2) (sub_cons (by kernel_rfl) rfl sub_nil) (hsub [0] (by kernel_rfl) rfl)
  intro s471 u472
  refine cm_seq ?_
  refine cm_region ?_
  refine lm_val 68 (by kernel_rfl) (fun w1 c1 => (op_move (v := .slice _ _ _) rfl)) ?_
  refine lm_val 4 (by kernel_rfl) (fun w1 c1 => (op_assign (v := .slice _ _ _) rfl)) ?_
  refine lm_nil ?_
  refine xm_next ?_
  refine cm_ret ?_
  exact xm_retT rfl (by kernel_rfl) (show _ = Value.slice _ _ _ from rfl) fun w1 c1 => ⟨(u472.1, u472.2.1, u472.2.2), rfl, hsub [0] (by kernel_rfl) rfl w1 c1⟩
/-- recyclingref18.Counts -/
def m_recyclingref18_Counts (N : Nat) (p0 : (List ApiEmptying)) (p1 : Int) : Option ((List Int) × Int) :=
  Option.bind (m_recyclingref18_Check N p0 (256 : Int) (16 : Int)) fun r1 => (if r1 ≠ 0 then
    some ((([] : List Int), r1))
  else
    (if ((decide (p1 < 0)) || (decide (86400 < p1))) = true then
      some ((([] : List Int), (1 : Int)))
    else
      Option.bind (m_recyclingref18_counting N p0 p1) fun r6 => some ((r6, (0 : Int)))))
set_option maxRecDepth 20000 in
theorem m_recyclingref18_Counts_ok (N : Nat) (w0 : World) (p0 : (List ApiEmptying)) (p1 : Int) (A_p0 : Option Addr) (n_p0 c_p0 : Nat) (hr_p0 : RdE w0 7 encApiEmptying A_p0 p0) (hz_p0 : SW A_p0 n_p0 c_p0 (List.length p0)) (r : (List Int) × Int) (hr : m_recyclingref18_Counts N p0 p1 = some r) :
    Calls Try.prog 16 [.slice A_p0 n_p0 c_p0, .int .i64 p1].toArray w0 fun x w1 => ∃ u, x = .returned ((fun (r : (List Int) × Int) (u : (Option Addr) × Nat × Nat) => .tuple #[.slice u.1 u.2.1 u.2.2, .int .i64 r.2]) r u) ∧ Hs w0 ((fun (r : (List Int) × Int) (u : (Option Addr) × Nat × Nat) => [ownE 3 1 encI u.1 u.2.1 u.2.2 r.1]) r u) w1 := by
  refine calls_cm (n := 21) (R := fun r x w1 => ∃ u, x = .returned ((fun (r : (List Int) × Int) (u : (Option Addr) × Nat × Nat) => .tuple #[.slice u.1 u.2.1 u.2.2, .int .i64 r.2]) r u) ∧ Hs w0 ((fun (r : (List Int) × Int) (u : (Option Addr) × Nat × Nat) => [ownE 3 1 encI u.1 u.2.1 u.2.2 r.1]) r u) w1) Try.func16 rfl rfl (Nat.le_of_ble_eq_true rfl) ?_ r hr
  unfold m_recyclingref18_Counts
  refine cm_seq ?_
  refine cm_region ?_
  refine lm_val 4 (by kernel_rfl) (fun w1 c1 => (op_assign (v := .slice _ _ _) rfl)) ?_
  refine lm_val 5 (by kernel_rfl) (fun w1 c1 => (op_assign (v := .int .i64 _) rfl)) ?_
  refine lm_nil ?_
  refine xm_next ?_
  refine cm_seq ?_
  refine cm_seq ?_
  refine cm_region ?_
  refine lm_val 7 (by kernel_rfl) (fun w1 c1 => (op_move (v := .slice _ _ _) rfl)) ?_
  refine lm_call 8 (V := (fun (r : Int) (_u : Unit) => .int .i64 r)) (HR := (fun (_r : Int) (_u : Unit) => [])) (by kernel_rfl) (fun w1 => op_call (by kernel_rfl)) (fun r1 hr1 w1 c1 => m_recyclingref18_Check_ok N w1 p0 (256 : Int) (16 : Int) A_p0 n_p0 c_p0 (hr_p0.old c1) hz_p0 r1 hr1) ?_
  intro r1 u2
  refine lm_val 6 (by kernel_rfl) (fun w1 c1 => (op_assign (v := .int .i64 _) rfl)) ?_
  refine lm_nil ?_
  refine xm_next ?_
  refine cm_seq ?_
  refine cm_region ?_
  refine lm_val 9 (by kernel_rfl) (fun w1 c1 => (op_move (v := .int .i64 _) rfl)) ?_
  refine lm_val 10 (by kernel_rfl) (fun w1 c1 => (op_neq rfl rfl)) ?_
  refine lm_nil ?_
  refine xm_next ?_
  refine cm_cond (by kernel_rfl) rfl (fun h3 => ?_) (fun h3 => ?_)
  · skip
    refine cm_seq ?_
    refine cm_region ?_
    refine lm_val 11 (by kernel_rfl) (fun w1 c1 => (op_move (v := .int .i64 _) rfl)) ?_
    refine lm_val 4 (by kernel_rfl) (fun w1 c1 => (op_assign (v := .slice _ _ _) rfl)) ?_
    refine lm_val 5 (by kernel_rfl) (fun w1 c1 => (op_assign (v := .int .i64 _) rfl)) ?_
    refine lm_nil ?_
    refine xm_next ?_
    refine cm_ret ?_
    refine xm_thenR ?_
    refine xm_nilrow 3 1 encI ?_
    exact xm_retTT rfl (by kernel_rfl) (show _ = Value.slice _ _ _ from rfl) (by kernel_rfl) (show _ = Value.int .i64 _ from rfl) fun w1 c1 => ⟨(none, 0, 0), rfl, hsub [0] (by kernel_rfl) rfl w1 c1⟩
  · skip
    refine cm_skip ?_
    refine xm_next ?_
    refine cm_seq ?_
    refine cm_seq ?_
    refine cm_cutE [(17, .bool ((decide (p1 < 0)) || (decide (86400 < p1))))] ?_ ?_
    · skip
      refine wq_val 12 (by kernel_rfl) (fun w1 c1 => (op_move (v := .int .i64 _) rfl)) ?_
      refine wq_dec 13 (by kernel_rfl) (fun w1 c1 => (op_lss rfl rfl)) (fun h4 => ?_) (fun h4 => ?_)
      · skip
        refine wq_val 14 (by kernel_rfl) (fun w1 c1 => (op_move (v := .bool true) rfl)) ?_
        refine wq_skip 15 (by kernel_rfl) ?_
        refine wq_skip 16 (by kernel_rfl) ?_
        refine wq_val 17 (by kernel_rfl) (fun w1 c1 => (op_pick_t (v := .bool true) rfl rfl)) ?_
        exact leaf_q (sub_out 6 _ rfl (by kernel_rfl) ⟨(congrArg Value.bool (by rw [decide_eq_true h4] <;> rfl)), trivial⟩)
      · skip
        refine wq_val 14 (by kernel_rfl) (fun w1 c1 => (op_move (v := .bool false) rfl)) ?_
        refine wq_val 15 (by kernel_rfl) (fun w1 c1 => (op_move (v := .int .i64 _) rfl)) ?_
        refine wq_val 16 (by kernel_rfl) (fun w1 c1 => (op_gtr rfl rfl)) ?_
        refine wq_val 17 (by kernel_rfl) (fun w1 c1 => (op_pick_f (v := .bool _) rfl rfl)) ?_
        exact leaf_q (sub_out 6 _ rfl (by kernel_rfl) ⟨(congrArg Value.bool (by rw [decide_eq_false h4] <;> rfl)), trivial⟩)
    refine xm_next ?_
    refine cm_condB (by kernel_rfl) rfl (fun h5 => ?_) (fun h5 => ?_)
    · skip
      refine cm_seq ?_
      refine cm_region ?_
      refine lm_val 4 (by kernel_rfl) (fun w1 c1 => (op_assign (v := .slice _ _ _) rfl)) ?_
      refine lm_val 5 (by kernel_rfl) (fun w1 c1 => (op_assign (v := .int .i64 _) rfl)) ?_
      refine lm_nil ?_
      refine xm_next ?_
      refine cm_ret ?_
      refine xm_thenR ?_
      refine xm_nilrow 3 1 encI ?_
      exact xm_retTT rfl (by kernel_rfl) (show _ = Value.slice _ _ _ from rfl) (by kernel_rfl) (show _ = Value.int .i64 _ from rfl) fun w1 c1 => ⟨(none, 0, 0), rfl, hsub [0] (by kernel_rfl) rfl w1 c1⟩
    · skip
      refine cm_skip ?_
      refine xm_next ?_
      refine cm_seq ?_
      refine cm_region ?_
      refine lm_val 18 (by kernel_rfl) (fun w1 c1 => (op_move (v := .slice _ _ _) rfl)) ?_
      refine lm_val 19 (by kernel_rfl) (fun w1 c1 => (op_move (v := .int .i64 _) rfl)) ?_
      refine lm_call 20 (V := (fun (_r : (List Int)) (u : (Option Addr) × Nat × Nat) => .slice u.1 u.2.1 u.2.2)) (HR := (fun (r : (List Int)) (u : (Option Addr) × Nat × Nat) => [ownE 3 1 encI u.1 u.2.1 u.2.2 r])) (by kernel_rfl) (fun w1 => op_call (by kernel_rfl)) (fun r1 hr1 w1 c1 => m_recyclingref18_counting_ok N w1 p0 p1 A_p0 n_p0 c_p0 (hr_p0.old c1) hz_p0 r1 hr1) ?_
      intro r6 u7
      refine lm_val 4 (by kernel_rfl) (fun w1 c1 => (op_assign (v := .slice _ _ _) rfl)) ?_
      refine lm_val 5 (by kernel_rfl) (fun w1 c1 => (op_assign (v := .int .i64 _) rfl)) ?_
      refine lm_nil ?_
      refine xm_next ?_
      refine cm_ret ?_
      exact xm_retTT rfl (by kernel_rfl) (show _ = Value.slice _ _ _ from rfl) (by kernel_rfl) (show _ = Value.int .i64 _ from rfl) fun w1 c1 => ⟨(u7.1, u7.2.1, u7.2.2), rfl, hsub [0] (by kernel_rfl) rfl w1 c1⟩
/-- recyclingref18.Same -/
def m_recyclingref18_Same (N : Nat) (p0 : (List Int)) (p1 : (List Int)) : Option (Bool) :=
  (if (List.length p0 : Int) ≠ (List.length p1 : Int) then
    some (false)
  else
    (andThen
      (loopM (fun (s39 : Int) =>
        (if s39 < (List.length p0 : Int) then
          ck ((0 : Int) ≤ s39 ∧ s39 < (List.length p0 : Int)) (
            ck ((0 : Int) ≤ s39 ∧ s39 < (List.length p1 : Int)) (
              (if (ix p0 s39) ≠ (ix p1 s39) then
                some (.done (.done (false)))
              else
                ck (I64 (s39 + (1 : Int))) (
                  some (.next (s39 + (1 : Int)))))))
        else
          some (.done (.next ())))) N (0 : Int))
    fun (_s23 : Unit) =>
      some (true)))
set_option maxRecDepth 20000 in
theorem m_recyclingref18_Same_ok (N : Nat) (w0 : World) (p0 : (List Int)) (p1 : (List Int)) (A_p0 : Option Addr) (n_p0 c_p0 : Nat) (A_p1 : Option Addr) (n_p1 c_p1 : Nat) (hr_p0 : RdE w0 1 encI A_p0 p0) (hz_p0 : SW A_p0 n_p0 c_p0 (List.length p0)) (hr_p1 : RdE w0 1 encI A_p1 p1) (hz_p1 : SW A_p1 n_p1 c_p1 (List.length p1)) (r : Bool) (hr : m_recyclingref18_Same N p0 p1 = some r) :
    Calls Try.prog 17 [.slice A_p0 n_p0 c_p0, .slice A_p1 n_p1 c_p1].toArray w0 fun x w1 => ∃ u, x = .returned ((fun (r : Bool) (_u : Unit) => .bool r) r u) ∧ Hs w0 ((fun (_r : Bool) (_u : Unit) => []) r u) w1 := by
  refine calls_cm (n := 26) (R := fun r x w1 => ∃ u, x = .returned ((fun (r : Bool) (_u : Unit) => .bool r) r u) ∧ Hs w0 ((fun (_r : Bool) (_u : Unit) => []) r u) w1) Try.func17 rfl rfl (Nat.le_of_ble_eq_true rfl) ?_ r hr
  unfold m_recyclingref18_Same
  refine cm_seq ?_
  refine cm_region ?_
  refine lm_val 4 (by kernel_rfl) (fun w1 c1 => (op_assign (v := .bool false) rfl)) ?_
  refine lm_nil ?_
  refine xm_next ?_
  refine cm_seq ?_
  refine cm_seq ?_
  refine cm_region ?_
  refine lm_val 6 (by kernel_rfl) (fun w1 c1 => (op_move (v := .slice _ _ _) rfl)) ?_
  refine lm_val 7 (by kernel_rfl) (fun w1 c1 => (op_lenN rfl (by kernel_rfl) hz_p0.2.2)) ?_
  refine lm_val 8 (by kernel_rfl) (fun w1 c1 => (op_move (v := .slice _ _ _) rfl)) ?_
  refine lm_val 9 (by kernel_rfl) (fun w1 c1 => (op_lenN rfl (by kernel_rfl) hz_p1.2.2)) ?_
  refine lm_val 10 (by kernel_rfl) (fun w1 c1 => (op_neq rfl rfl)) ?_
  refine lm_nil ?_
  refine xm_next ?_
  refine cm_cond (by kernel_rfl) rfl (fun h1 => ?_) (fun h1 => ?_)
  · skip
    refine cm_seq ?_
    refine cm_region ?_
    refine lm_val 4 (by kernel_rfl) (fun w1 c1 => (op_assign (v := .bool false) rfl)) ?_
    refine lm_nil ?_
    refine xm_next ?_
    refine cm_ret ?_
    refine xm_thenR ?_
    exact xm_retT rfl (by kernel_rfl) (show _ = Value.bool false from rfl) fun w1 c1 => ⟨(), rfl, hsub [] (by kernel_rfl) rfl w1 c1⟩
  · skip
    refine cm_skip ?_
    refine xm_next ?_
    refine cm_join (σ := Unit) (ξ := Unit) (fun s23 u24 => []) (fun s23 u24 => []) ?_ ?_
    · skip
      refine cm_seq ?_
      refine cm_region ?_
      refine lm_val 5 (by kernel_rfl) (fun w1 c1 => (op_assign (v := .int .i64 _) rfl)) ?_
      refine lm_nil ?_
      refine xm_next ?_
      refine cm_block ?_
      refine cm_loop (σ := Int) (ξ := Unit) (fun s39 u40 => [(0, .slice A_p0 n_p0 c_p0), (1, .slice A_p1 n_p1 c_p1), (5, .int .i64 s39)]) (fun s39 u40 => []) () ?_ ?_ ?_
      · exact (sub_cons (by kernel_rfl) rfl (sub_cons (by kernel_rfl) rfl (sub_cons (by kernel_rfl) rfl sub_nil)))
      · exact hsub [] (by kernel_rfl) rfl
      intro s39 u40
      refine cm_seq ?_
      refine cm_seq ?_
      refine cm_region ?_
      refine lm_val 11 (by kernel_rfl) (fun w1 c1 => (op_move (v := .int .i64 _) rfl)) ?_
      refine lm_val 12 (by kernel_rfl) (fun w1 c1 => (op_move (v := .slice _ _ _) rfl)) ?_
      refine lm_val 13 (by kernel_rfl) (fun w1 c1 => (op_lenN rfl (by kernel_rfl) hz_p0.2.2)) ?_
      refine lm_val 14 (by kernel_rfl) (fun w1 c1 => (op_lss rfl rfl)) ?_
      refine lm_nil ?_
      refine xm_next ?_
      refine cm_cond (by kernel_rfl) rfl (fun h41 => ?_) (fun h41 => ?_)
      · skip
        refine cm_skip ?_
        refine xm_next ?_
        refine cm_seq ?_
        refine cm_block ?_
        refine cm_seq ?_
        refine cm_ck (fun h42 => ?_)
        refine cm_ck (fun h43 => ?_)
        refine cm_drawn [(25, .bool (decide ((ix p0 s39) ≠ (ix p1 s39))))] (by kernel_rfl) (by kernel_rfl) ?_ ?_
        · skip
          refine wq_val 17 (by kernel_rfl) (fun w1 c1 => (op_move (v := .slice _ _ _) rfl)) ?_
          refine wq_val 18 (by kernel_rfl) (fun w1 c1 => (op_move (v := .int .i64 _) rfl)) ?_
          refine wq_val 19 (by kernel_rfl) (fun w1 c1 => (op_indexA 1 rfl rfl (by kernel_rfl) ((hr_p0.old c1).addr h42.1 h42.2) hz_p0.2.2 h42.1 h42.2)) ?_
          refine wq_val 20 (by kernel_rfl) (fun w1 c1 => (op_load (v := .int .i64 (ix p0 s39)) rfl (by kernel_rfl) ((hr_p0.old c1).cell0 h42.1 h42.2 rfl))) ?_
          refine wq_val 21 (by kernel_rfl) (fun w1 c1 => (op_move (v := .slice _ _ _) rfl)) ?_
          refine wq_val 22 (by kernel_rfl) (fun w1 c1 => (op_move (v := .int .i64 _) rfl)) ?_
          refine wq_val 23 (by kernel_rfl) (fun w1 c1 => (op_indexA 1 rfl rfl (by kernel_rfl) ((hr_p1.old c1).addr h43.1 h43.2) hz_p1.2.2 h43.1 h43.2)) ?_
          refine wq_val 24 (by kernel_rfl) (fun w1 c1 => (op_load (v := .int .i64 (ix p1 s39)) rfl (by kernel_rfl) ((hr_p1.old c1).cell0 h43.1 h43.2 rfl))) ?_
          refine wq_val 25 (by kernel_rfl) (fun w1 c1 => (op_neq rfl rfl)) ?_
          exact leaf_q (sub_out 9 _ rfl (by kernel_rfl) ⟨rfl, trivial⟩)
        refine xm_next ?_
        refine cm_cond (by kernel_rfl) rfl (fun h44 => ?_) (fun h44 => ?_)
        · skip
          refine cm_seq ?_
          refine cm_region ?_
          refine lm_val 4 (by kernel_rfl) (fun w1 c1 => (op_assign (v := .bool false) rfl)) ?_
          refine lm_nil ?_
          refine xm_next ?_
          refine cm_ret ?_
          refine xm_inR ?_
          refine xm_thenR ?_
          refine xm_lret ?_
          refine xm_inR ?_
          refine xm_lret ?_
          exact xm_retT rfl (by kernel_rfl) (show _ = Value.bool false from rfl) fun w1 c1 => ⟨(), rfl, hsub [] (by kernel_rfl) rfl w1 c1⟩
        · skip
          refine cm_skip ?_
          refine xm_inN ?_
          refine xm_next ?_
          refine cm_region ?_
          refine lm_val 15 (by kernel_rfl) (fun w1 c1 => (op_move (v := .int .i64 _) rfl)) ?_
          refine lm_ck (fun h45 => ?_)
          refine lm_val 16 (by kernel_rfl) (fun w1 c1 => (op_add rfl rfl h45)) ?_
          refine lm_val 5 (by kernel_rfl) (fun w1 c1 => (op_assign (v := .int .i64 _) rfl)) ?_
          refine lm_nil ?_
          exact xm_lnext () (sub_cons (by kernel_rfl) rfl (sub_cons (by kernel_rfl) rfl (sub_cons (by kernel_rfl) rfl sub_nil))) (hsub [] (by kernel_rfl) rfl)
      · skip
        refine cm_exit ?_
        refine xm_thenE ?_
        refine xm_lexit ?_
        refine xm_here ?_
        exact xm_lnext () sub_nil (hsub [] (by kernel_rfl) rfl)
    intro s23 u24
    refine cm_seq ?_
    refine cm_region ?_
    refine lm_val 4 (by kernel_rfl) (fun w1 c1 => (op_assign (v := .bool true) rfl)) ?_
    refine lm_nil ?_
    refine xm_next ?_
    refine cm_ret ?_
    exact xm_retT rfl (by kernel_rfl) (show _ = Value.bool true from rfl) fun w1 c1 => ⟨(), rfl, hsub [] (by kernel_rfl) rfl w1 c1⟩
/-- recyclingref18.Window -/
def m_recyclingref18_Window (_N : Nat) (p0 : ApiWindow) : Option (Bool) :=
  some ((((decide (0 ≤ p0.From)) && (decide (p0.From ≤ p0.To))) && (decide (p0.To ≤ 3155760000))))
set_option maxRecDepth 20000 in
theorem m_recyclingref18_Window_ok (N : Nat) (w0 : World) (p0 : ApiWindow)   (r : Bool) (hr : m_recyclingref18_Window N p0 = some r) :
    Calls Try.prog 33 [.agg #[.int .i64 p0.From, .int .i64 p0.To]].toArray w0 fun x w1 => ∃ u, x = .returned ((fun (r : Bool) (_u : Unit) => .bool r) r u) ∧ Hs w0 ((fun (_r : Bool) (_u : Unit) => []) r u) w1 := by
  refine calls_cm (n := 18) (R := fun r x w1 => ∃ u, x = .returned ((fun (r : Bool) (_u : Unit) => .bool r) r u) ∧ Hs w0 ((fun (_r : Bool) (_u : Unit) => []) r u) w1) Try.func33 rfl rfl (Nat.le_of_ble_eq_true rfl) ?_ r hr
  unfold m_recyclingref18_Window
  refine cm_seq ?_
  refine cm_region ?_
  refine lm_box 1 [.int .i64 _, .int .i64 _] (by kernel_rfl) rfl ?_
  intro b1
  refine lm_val 2 (by kernel_rfl) (fun w1 c1 => (op_assign (v := .bool false) rfl)) ?_
  refine lm_nil ?_
  refine xm_next ?_
  refine cm_seq ?_
  refine cm_cutE [(2, .bool (((decide (0 ≤ p0.From)) && (decide (p0.From ≤ p0.To))) && (decide (p0.To ≤ 3155760000))))] ?_ ?_
  · skip
    refine wq_val 3 (by kernel_rfl) (fun w1 c1 => (op_fieldL (m := 0) (k := 0) rfl (by kernel_rfl) rfl)) ?_
    refine wq_val 4 (by kernel_rfl) (fun w1 c1 => (op_load rfl (by kernel_rfl) (c1.cell 0 (u := .int .i64 _) rfl rfl))) ?_
    refine wq_dec 5 (by kernel_rfl) (fun w1 c1 => (op_leq rfl rfl)) (fun h2 => ?_) (fun h2 => ?_)
    · skip
      refine wq_val 6 (by kernel_rfl) (fun w1 c1 => (op_move (v := .bool true) rfl)) ?_
      refine wq_val 7 (by kernel_rfl) (fun w1 c1 => (op_fieldL (m := 0) (k := 0) rfl (by kernel_rfl) rfl)) ?_
      refine wq_val 8 (by kernel_rfl) (fun w1 c1 => (op_load rfl (by kernel_rfl) (c1.cell 0 (u := .int .i64 _) rfl rfl))) ?_
      refine wq_val 9 (by kernel_rfl) (fun w1 c1 => (op_fieldL (m := 1) (k := 1) rfl (by kernel_rfl) rfl)) ?_
      refine wq_val 10 (by kernel_rfl) (fun w1 c1 => (op_load rfl (by kernel_rfl) (c1.cell 0 (u := .int .i64 _) rfl rfl))) ?_
      refine wq_dec 11 (by kernel_rfl) (fun w1 c1 => (op_leq rfl rfl)) (fun h3 => ?_) (fun h3 => ?_)
      · skip
        refine wq_val 12 (by kernel_rfl) (fun w1 c1 => (op_pick_t (v := .bool true) rfl rfl)) ?_
        refine wq_val 13 (by kernel_rfl) (fun w1 c1 => (op_move (v := .bool true) rfl)) ?_
        refine wq_val 14 (by kernel_rfl) (fun w1 c1 => (op_fieldL (m := 1) (k := 1) rfl (by kernel_rfl) rfl)) ?_
        refine wq_val 15 (by kernel_rfl) (fun w1 c1 => (op_load rfl (by kernel_rfl) (c1.cell 0 (u := .int .i64 _) rfl rfl))) ?_
        refine wq_val 16 (by kernel_rfl) (fun w1 c1 => (op_leq rfl rfl)) ?_
        refine wq_val 17 (by kernel_rfl) (fun w1 c1 => (op_pick_t (v := .bool _) rfl rfl)) ?_
        refine wq_val 2 (by kernel_rfl) (fun w1 c1 => (op_assign (v := .bool _) rfl)) ?_
        exact leaf_q (sub_out 16 _ rfl (by kernel_rfl) ⟨(congrArg Value.bool (by rw [decide_eq_true h2, decide_eq_true h3] <;> rfl)), trivial⟩)
      · skip
        refine wq_val 12 (by kernel_rfl) (fun w1 c1 => (op_pick_t (v := .bool false) rfl rfl)) ?_
        refine wq_val 13 (by kernel_rfl) (fun w1 c1 => (op_move (v := .bool false) rfl)) ?_
        refine wq_skip 14 (by kernel_rfl) ?_
        refine wq_skip 15 (by kernel_rfl) ?_
        refine wq_skip 16 (by kernel_rfl) ?_
        refine wq_val 17 (by kernel_rfl) (fun w1 c1 => (op_pick_f (v := .bool false) rfl rfl)) ?_
        refine wq_val 2 (by kernel_rfl) (fun w1 c1 => (op_assign (v := .bool false) rfl)) ?_
        exact leaf_q (sub_out 16 _ rfl (by kernel_rfl) ⟨(congrArg Value.bool (by rw [decide_eq_true h2, decide_eq_false h3] <;> rfl)), trivial⟩)
    · skip
      refine wq_val 6 (by kernel_rfl) (fun w1 c1 => (op_move (v := .bool false) rfl)) ?_
      refine wq_skip 7 (by kernel_rfl) ?_
      refine wq_skip 8 (by kernel_rfl) ?_
      refine wq_skip 9 (by kernel_rfl) ?_
      refine wq_skip 10 (by kernel_rfl) ?_
      refine wq_skip 11 (by kernel_rfl) ?_
      refine wq_val 12 (by kernel_rfl) (fun w1 c1 => (op_pick_f (v := .bool false) rfl rfl)) ?_
      refine wq_val 13 (by kernel_rfl) (fun w1 c1 => (op_move (v := .bool false) rfl)) ?_
      refine wq_skip 14 (by kernel_rfl) ?_
      refine wq_skip 15 (by kernel_rfl) ?_
      refine wq_skip 16 (by kernel_rfl) ?_
      refine wq_val 17 (by kernel_rfl) (fun w1 c1 => (op_pick_f (v := .bool false) rfl rfl)) ?_
      refine wq_val 2 (by kernel_rfl) (fun w1 c1 => (op_assign (v := .bool false) rfl)) ?_
      exact leaf_q (sub_out 16 _ rfl (by kernel_rfl) ⟨(congrArg Value.bool (by rw [decide_eq_false h2] <;> rfl)), trivial⟩)
  refine xm_next ?_
  refine cm_ret ?_
  exact xm_retT rfl (by kernel_rfl) (show _ = Value.bool _ from rfl) fun w1 c1 => ⟨(), rfl, hsub [] (by kernel_rfl) rfl w1 c1⟩
/-- recyclingref18.Belongs -/
def m_recyclingref18_Belongs (N : Nat) (p0 : (List ApiAssign)) (p1 : Int) (p2 : Int) (p3 : Int) : Option (Bool) :=
  (andThen
    (loopM (fun (s58 : Int) =>
      (if s58 < (List.length p0 : Int) then
        ck ((0 : Int) ≤ s58 ∧ s58 < (List.length p0 : Int)) (
          ck (decide ((ix p0 s58).Container = p1) = true → (0 : Int) ≤ s58 ∧ s58 < (List.length p0 : Int)) (
            ck (((decide ((ix p0 s58).Container = p1)) && (decide ((ix p0 s58).When.From ≤ p3))) = true → (0 : Int) ≤ s58 ∧ s58 < (List.length p0 : Int)) (
              (if (((decide ((ix p0 s58).Container = p1)) && (decide ((ix p0 s58).When.From ≤ p3))) && (decide (p3 < (ix p0 s58).When.To))) = true then
                ck ((0 : Int) ≤ s58 ∧ s58 < (List.length p0 : Int)) (
                  some (.done (.done ((decide ((ix p0 s58).Household = p2))))))
              else
                ck (I64 (s58 + (1 : Int))) (
                  some (.next (s58 + (1 : Int))))))))
      else
        some (.done (.next ())))) N (0 : Int))
  fun (_s34 : Unit) =>
    some (false))
set_option maxRecDepth 20000 in
theorem m_recyclingref18_Belongs_ok (N : Nat) (w0 : World) (p0 : (List ApiAssign)) (p1 : Int) (p2 : Int) (p3 : Int) (A_p0 : Option Addr) (n_p0 c_p0 : Nat) (hr_p0 : RdE w0 4 encApiAssign A_p0 p0) (hz_p0 : SW A_p0 n_p0 c_p0 (List.length p0)) (r : Bool) (hr : m_recyclingref18_Belongs N p0 p1 p2 p3 = some r) :
    Calls Try.prog 34 [.slice A_p0 n_p0 c_p0, .int .i64 p1, .int .i64 p2, .int .i64 p3].toArray w0 fun x w1 => ∃ u, x = .returned ((fun (r : Bool) (_u : Unit) => .bool r) r u) ∧ Hs w0 ((fun (_r : Bool) (_u : Unit) => []) r u) w1 := by
  refine calls_cm (n := 50) (R := fun r x w1 => ∃ u, x = .returned ((fun (r : Bool) (_u : Unit) => .bool r) r u) ∧ Hs w0 ((fun (_r : Bool) (_u : Unit) => []) r u) w1) Try.func34 rfl rfl (Nat.le_of_ble_eq_true rfl) ?_ r hr
  unfold m_recyclingref18_Belongs
  refine cm_seq ?_
  refine cm_region ?_
  refine lm_val 8 (by kernel_rfl) (fun w1 c1 => (op_assign (v := .bool false) rfl)) ?_
  refine lm_nil ?_
  refine xm_next ?_
  refine cm_join (σ := Unit) (ξ := Unit) (fun s34 u35 => []) (fun s34 u35 => []) ?_ ?_
  · skip
    refine cm_seq ?_
    refine cm_region ?_
    refine lm_val 9 (by kernel_rfl) (fun w1 c1 => (op_assign (v := .int .i64 _) rfl)) ?_
    refine lm_nil ?_
    refine xm_next ?_
    refine cm_block ?_
    refine cm_loop (σ := Int) (ξ := Unit) (fun s58 u59 => [(0, .slice A_p0 n_p0 c_p0), (1, .int .i64 p1), (2, .int .i64 p2), (3, .int .i64 p3), (9, .int .i64 s58)]) (fun s58 u59 => []) () ?_ ?_ ?_
    · exact (sub_cons (by kernel_rfl) rfl (sub_cons (by kernel_rfl) rfl (sub_cons (by kernel_rfl) rfl (sub_cons (by kernel_rfl) rfl (sub_cons (by kernel_rfl) rfl sub_nil)))))
    · exact hsub [] (by kernel_rfl) rfl
    intro s58 u59
    refine cm_seq ?_
    refine cm_seq ?_
    refine cm_region ?_
    refine lm_val 10 (by kernel_rfl) (fun w1 c1 => (op_move (v := .int .i64 _) rfl)) ?_
    refine lm_val 11 (by kernel_rfl) (fun w1 c1 => (op_move (v := .slice _ _ _) rfl)) ?_
    refine lm_val 12 (by kernel_rfl) (fun w1 c1 => (op_lenN rfl (by kernel_rfl) hz_p0.2.2)) ?_
    refine lm_val 13 (by kernel_rfl) (fun w1 c1 => (op_lss rfl rfl)) ?_
    refine lm_nil ?_
    refine xm_next ?_
    refine cm_cond (by kernel_rfl) rfl (fun h60 => ?_) (fun h60 => ?_)
    · skip
      refine cm_skip ?_
      refine xm_next ?_
      refine cm_seq ?_
      refine cm_block ?_
      refine cm_seq ?_
      refine cm_ck (fun h61 => ?_)
      refine cm_ck (fun h62 => ?_)
      refine cm_ck (fun h63 => ?_)
      refine cm_cutE [(42, .bool (((decide ((ix p0 s58).Container = p1)) && (decide ((ix p0 s58).When.From ≤ p3))) && (decide (p3 < (ix p0 s58).When.To))))] ?_ ?_
      · skip
        refine wq_val 16 (by kernel_rfl) (fun w1 c1 => (op_move (v := .slice _ _ _) rfl)) ?_
        refine wq_val 17 (by kernel_rfl) (fun w1 c1 => (op_move (v := .int .i64 _) rfl)) ?_
        refine wq_val 18 (by kernel_rfl) (fun w1 c1 => (op_indexA 4 rfl rfl (by kernel_rfl) ((hr_p0.old c1).addr h61.1 h61.2) hz_p0.2.2 h61.1 h61.2)) ?_
        refine wq_val 19 (by kernel_rfl) (fun w1 c1 => (op_field0 rfl (by kernel_rfl))) ?_
        refine wq_val 20 (by kernel_rfl) (fun w1 c1 => (op_load (v := .int .i64 ((ix p0 s58).Container)) rfl (by kernel_rfl) ((hr_p0.old c1).cell0 h61.1 h61.2 rfl))) ?_
        refine wq_val 21 (by kernel_rfl) (fun w1 c1 => (op_move (v := .int .i64 _) rfl)) ?_
        refine wq_dec 22 (by kernel_rfl) (fun w1 c1 => (op_eql rfl rfl)) (fun h64 => ?_) (fun h64 => ?_)
        · skip
          refine wq_val 23 (by kernel_rfl) (fun w1 c1 => (op_move (v := .bool true) rfl)) ?_
          refine wq_val 24 (by kernel_rfl) (fun w1 c1 => (op_move (v := .slice _ _ _) rfl)) ?_
          refine wq_val 25 (by kernel_rfl) (fun w1 c1 => (op_move (v := .int .i64 _) rfl)) ?_
          refine wq_val 26 (by kernel_rfl) (fun w1 c1 => (op_indexA 4 rfl rfl (by kernel_rfl) ((hr_p0.old c1).addr (h62 (by rw [decide_eq_true h64] <;> rfl)).1 (h62 (by rw [decide_eq_true h64] <;> rfl)).2) hz_p0.2.2 (h62 (by rw [decide_eq_true h64] <;> rfl)).1 (h62 (by rw [decide_eq_true h64] <;> rfl)).2)) ?_
          refine wq_val 27 (by kernel_rfl) (fun w1 c1 => (op_field (m := 2) rfl (by kernel_rfl))) ?_
          refine wq_val 28 (by kernel_rfl) (fun w1 c1 => (op_field0 rfl (by kernel_rfl))) ?_
          refine wq_val 29 (by kernel_rfl) (fun w1 c1 => (op_load (v := .int .i64 ((ix p0 s58).When.From)) rfl (by kernel_rfl) ((hr_p0.old c1).cell (j := 2) (h62 (by rw [decide_eq_true h64] <;> rfl)).1 (h62 (by rw [decide_eq_true h64] <;> rfl)).2 rfl))) ?_
          refine wq_val 30 (by kernel_rfl) (fun w1 c1 => (op_move (v := .int .i64 _) rfl)) ?_
          refine wq_dec 31 (by kernel_rfl) (fun w1 c1 => (op_leq rfl rfl)) (fun h65 => ?_) (fun h65 => ?_)
          · skip
            refine wq_val 32 (by kernel_rfl) (fun w1 c1 => (op_pick_t (v := .bool true) rfl rfl)) ?_
            refine wq_val 33 (by kernel_rfl) (fun w1 c1 => (op_move (v := .bool true) rfl)) ?_
            refine wq_val 34 (by kernel_rfl) (fun w1 c1 => (op_move (v := .int .i64 _) rfl)) ?_
            refine wq_val 35 (by kernel_rfl) (fun w1 c1 => (op_move (v := .slice _ _ _) rfl)) ?_
            refine wq_val 36 (by kernel_rfl) (fun w1 c1 => (op_move (v := .int .i64 _) rfl)) ?_
            refine wq_val 37 (by kernel_rfl) (fun w1 c1 => (op_indexA 4 rfl rfl (by kernel_rfl) ((hr_p0.old c1).addr (h63 (by rw [decide_eq_true h64, decide_eq_true h65] <;> rfl)).1 (h63 (by rw [decide_eq_true h64, decide_eq_true h65] <;> rfl)).2) hz_p0.2.2 (h63 (by rw [decide_eq_true h64, decide_eq_true h65] <;> rfl)).1 (h63 (by rw [decide_eq_true h64, decide_eq_true h65] <;> rfl)).2)) ?_
            refine wq_val 38 (by kernel_rfl) (fun w1 c1 => (op_field (m := 2) rfl (by kernel_rfl))) ?_
            refine wq_val 39 (by kernel_rfl) (fun w1 c1 => (op_fieldL (m := 1) (k := ao A_p0 + Int.toNat s58 * 4 + 3) rfl (by kernel_rfl) rfl)) ?_
            refine wq_val 40 (by kernel_rfl) (fun w1 c1 => (op_load (v := .int .i64 ((ix p0 s58).When.To)) rfl (by kernel_rfl) ((hr_p0.old c1).cell (j := 3) (h63 (by rw [decide_eq_true h64, decide_eq_true h65] <;> rfl)).1 (h63 (by rw [decide_eq_true h64, decide_eq_true h65] <;> rfl)).2 rfl))) ?_
            refine wq_val 41 (by kernel_rfl) (fun w1 c1 => (op_lss rfl rfl)) ?_
            refine wq_val 42 (by kernel_rfl) (fun w1 c1 => (op_pick_t (v := .bool _) rfl rfl)) ?_
            exact leaf_q (sub_out 27 _ rfl (by kernel_rfl) ⟨(congrArg Value.bool (by rw [decide_eq_true h64, decide_eq_true h65] <;> rfl)), trivial⟩)
          · skip
            refine wq_val 32 (by kernel_rfl) (fun w1 c1 => (op_pick_t (v := .bool false) rfl rfl)) ?_
            refine wq_val 33 (by kernel_rfl) (fun w1 c1 => (op_move (v := .bool false) rfl)) ?_
            refine wq_skip 34 (by kernel_rfl) ?_
            refine wq_skip 35 (by kernel_rfl) ?_
            refine wq_skip 36 (by kernel_rfl) ?_
            refine wq_skip 37 (by kernel_rfl) ?_
            refine wq_skip 38 (by kernel_rfl) ?_
            refine wq_skip 39 (by kernel_rfl) ?_
            refine wq_skip 40 (by kernel_rfl) ?_
            refine wq_skip 41 (by kernel_rfl) ?_
            refine wq_val 42 (by kernel_rfl) (fun w1 c1 => (op_pick_f (v := .bool false) rfl rfl)) ?_
            exact leaf_q (sub_out 27 _ rfl (by kernel_rfl) ⟨(congrArg Value.bool (by rw [decide_eq_true h64, decide_eq_false h65] <;> rfl)), trivial⟩)
        · skip
          refine wq_val 23 (by kernel_rfl) (fun w1 c1 => (op_move (v := .bool false) rfl)) ?_
          refine wq_skip 24 (by kernel_rfl) ?_
          refine wq_skip 25 (by kernel_rfl) ?_
          refine wq_skip 26 (by kernel_rfl) ?_
          refine wq_skip 27 (by kernel_rfl) ?_
          refine wq_skip 28 (by kernel_rfl) ?_
          refine wq_skip 29 (by kernel_rfl) ?_
          refine wq_skip 30 (by kernel_rfl) ?_
          refine wq_skip 31 (by kernel_rfl) ?_
          refine wq_val 32 (by kernel_rfl) (fun w1 c1 => (op_pick_f (v := .bool false) rfl rfl)) ?_
          refine wq_val 33 (by kernel_rfl) (fun w1 c1 => (op_move (v := .bool false) rfl)) ?_
          refine wq_skip 34 (by kernel_rfl) ?_
          refine wq_skip 35 (by kernel_rfl) ?_
          refine wq_skip 36 (by kernel_rfl) ?_
          refine wq_skip 37 (by kernel_rfl) ?_
          refine wq_skip 38 (by kernel_rfl) ?_
          refine wq_skip 39 (by kernel_rfl) ?_
          refine wq_skip 40 (by kernel_rfl) ?_
          refine wq_skip 41 (by kernel_rfl) ?_
          refine wq_val 42 (by kernel_rfl) (fun w1 c1 => (op_pick_f (v := .bool false) rfl rfl)) ?_
          exact leaf_q (sub_out 27 _ rfl (by kernel_rfl) ⟨(congrArg Value.bool (by rw [decide_eq_false h64] <;> rfl)), trivial⟩)
      refine xm_next ?_
      refine cm_condB (by kernel_rfl) rfl (fun h66 => ?_) (fun h66 => ?_)
      · skip
        refine cm_seq ?_
        refine cm_region ?_
        refine lm_val 43 (by kernel_rfl) (fun w1 c1 => (op_move (v := .slice _ _ _) rfl)) ?_
        refine lm_val 44 (by kernel_rfl) (fun w1 c1 => (op_move (v := .int .i64 _) rfl)) ?_
        refine lm_ck (fun h67 => ?_)
        refine lm_val 45 (by kernel_rfl) (fun w1 c1 => (op_indexA 4 rfl rfl (by kernel_rfl) ((hr_p0.old c1).addr h67.1 h67.2) hz_p0.2.2 h67.1 h67.2)) ?_
        refine lm_val 46 (by kernel_rfl) (fun w1 c1 => (op_field (m := 1) rfl (by kernel_rfl))) ?_
        refine lm_val 47 (by kernel_rfl) (fun w1 c1 => (op_load (v := .int .i64 ((ix p0 s58).Household)) rfl (by kernel_rfl) ((hr_p0.old c1).cell (j := 1) h67.1 h67.2 rfl))) ?_
        refine lm_val 48 (by kernel_rfl) (fun w1 c1 => (op_move (v := .int .i64 _) rfl)) ?_
        refine lm_val 49 (by kernel_rfl) (fun w1 c1 => (op_eql rfl rfl)) ?_
        refine lm_val 8 (by kernel_rfl) (fun w1 c1 => (op_assign (v := .bool _) rfl)) ?_
        refine lm_nil ?_
        refine xm_next ?_
        refine cm_ret ?_
        refine xm_inR ?_
        refine xm_thenR ?_
        refine xm_lret ?_
        refine xm_inR ?_
        refine xm_lret ?_
        exact xm_retT rfl (by kernel_rfl) (show _ = Value.bool _ from rfl) fun w1 c1 => ⟨(), rfl, hsub [] (by kernel_rfl) rfl w1 c1⟩
      · skip
        refine cm_skip ?_
        refine xm_inN ?_
        refine xm_next ?_
        refine cm_region ?_
        refine lm_val 14 (by kernel_rfl) (fun w1 c1 => (op_move (v := .int .i64 _) rfl)) ?_
        refine lm_ck (fun h68 => ?_)
        refine lm_val 15 (by kernel_rfl) (fun w1 c1 => (op_add rfl rfl h68)) ?_
        refine lm_val 9 (by kernel_rfl) (fun w1 c1 => (op_assign (v := .int .i64 _) rfl)) ?_
        refine lm_nil ?_
        exact xm_lnext () (sub_cons (by kernel_rfl) rfl (sub_cons (by kernel_rfl) rfl (sub_cons (by kernel_rfl) rfl (sub_cons (by kernel_rfl) rfl (sub_cons (by kernel_rfl) rfl sub_nil))))) (hsub [] (by kernel_rfl) rfl)
    · skip
      refine cm_exit ?_
      refine xm_thenE ?_
      refine xm_lexit ?_
      refine xm_here ?_
      exact xm_lnext () sub_nil (hsub [] (by kernel_rfl) rfl)
  intro s34 u35
  refine cm_seq ?_
  refine cm_region ?_
  refine lm_val 8 (by kernel_rfl) (fun w1 c1 => (op_assign (v := .bool false) rfl)) ?_
  refine lm_nil ?_
  refine xm_next ?_
  refine cm_ret ?_
  exact xm_retT rfl (by kernel_rfl) (show _ = Value.bool false from rfl) fun w1 c1 => ⟨(), rfl, hsub [] (by kernel_rfl) rfl w1 c1⟩
/-- recyclingref18.Of -/
def m_recyclingref18_Of (N : Nat) (p0 : (List ApiEmptying)) (p1 : (List ApiAssign)) (p2 : Int) (p3 : ApiWindow) (p4 : Int) : Option ((List Int) × Int) :=
  Option.bind (m_recyclingref18_Counts N p0 p4) fun r2 => (if r2.2 ≠ 0 then
    some ((([] : List Int), r2.2))
  else
    Option.bind (m_recyclingref18_Window N p3) fun r5 => (if (!r5) = true then
      some ((([] : List Int), (1 : Int)))
    else
      (andThen
        (loopM (fun (s210 : (List Int) × Int) =>
          (if s210.2 < (List.length r2.1 : Int) then
            (andThen
              (ck ((0 : Int) ≤ s210.2 ∧ s210.2 < (List.length r2.1 : Int)) (
                ck ((0 : Int) ≤ (ix r2.1 s210.2) ∧ (ix r2.1 s210.2) < (List.length p0 : Int)) (
                  callIf (((decide (p3.From ≤ (ix p0 (ix r2.1 s210.2)).At)) && (decide ((ix p0 (ix r2.1 s210.2)).At < p3.To))) = true) (m_recyclingref18_Belongs N p1 ((ix p0 (ix r2.1 s210.2)).Container) p2 ((ix p0 (ix r2.1 s210.2)).At)) fun r235 => (if (((decide (p3.From ≤ (ix p0 (ix r2.1 s210.2)).At)) && (decide ((ix p0 (ix r2.1 s210.2)).At < p3.To))) && r235) = true then
                    ck ((0 : Int) ≤ s210.2 ∧ s210.2 < (List.length r2.1 : Int)) (
                      ck ((List.length s210.1 + List.length ([(ix r2.1 s210.2)])) * 8 ≤ 140737488355328) (
                        some (.next (s210.1 ++ ([(ix r2.1 s210.2)])))))
                  else
                    some (.next s210.1)))))
            fun (s230 : (List Int)) =>
              ck (I64 (s210.2 + (1 : Int))) (
                some (.next (s230, (s210.2 + (1 : Int))))))
          else
            some (.done (.next s210.1)))) N (([] : List Int), (0 : Int)))
      fun (s128 : (List Int)) =>
        some ((s128, (0 : Int))))))
set_option maxRecDepth 20000 in
theorem m_recyclingref18_Of_ok (N : Nat) (w0 : World) (p0 : (List ApiEmptying)) (p1 : (List ApiAssign)) (p2 : Int) (p3 : ApiWindow) (p4 : Int) (A_p0 : Option Addr) (n_p0 c_p0 : Nat) (A_p1 : Option Addr) (n_p1 c_p1 : Nat) (hr_p0 : RdE w0 7 encApiEmptying A_p0 p0) (hz_p0 : SW A_p0 n_p0 c_p0 (List.length p0)) (hr_p1 : RdE w0 4 encApiAssign A_p1 p1) (hz_p1 : SW A_p1 n_p1 c_p1 (List.length p1)) (r : (List Int) × Int) (hr : m_recyclingref18_Of N p0 p1 p2 p3 p4 = some r) :
    Calls Try.prog 19 [.slice A_p0 n_p0 c_p0, .slice A_p1 n_p1 c_p1, .int .i64 p2, .agg #[.int .i64 p3.From, .int .i64 p3.To], .int .i64 p4].toArray w0 fun x w1 => ∃ u, x = .returned ((fun (r : (List Int) × Int) (u : (Option Addr) × Nat × Nat) => .tuple #[.slice u.1 u.2.1 u.2.2, .int .i64 r.2]) r u) ∧ Hs w0 ((fun (r : (List Int) × Int) (u : (Option Addr) × Nat × Nat) => [ownE 3 1 encI u.1 u.2.1 u.2.2 r.1]) r u) w1 := by
  refine calls_cm (n := 71) (R := fun r x w1 => ∃ u, x = .returned ((fun (r : (List Int) × Int) (u : (Option Addr) × Nat × Nat) => .tuple #[.slice u.1 u.2.1 u.2.2, .int .i64 r.2]) r u) ∧ Hs w0 ((fun (r : (List Int) × Int) (u : (Option Addr) × Nat × Nat) => [ownE 3 1 encI u.1 u.2.1 u.2.2 r.1]) r u) w1) Try.func19 rfl rfl (Nat.le_of_ble_eq_true rfl) ?_ r hr
  unfold m_recyclingref18_Of
  refine cm_seq ?_
  refine cm_region ?_
  refine lm_box 8 [.int .i64 _, .int .i64 _] (by kernel_rfl) rfl ?_
  intro b1
  refine lm_val 10 (by kernel_rfl) (fun w1 c1 => (op_assign (v := .slice _ _ _) rfl)) ?_
  refine lm_val 11 (by kernel_rfl) (fun w1 c1 => (op_assign (v := .int .i64 _) rfl)) ?_
  refine lm_nil ?_
  refine xm_next ?_
  refine cm_seq ?_
  refine cm_region ?_
  refine lm_val 18 (by kernel_rfl) (fun w1 c1 => (op_move (v := .slice _ _ _) rfl)) ?_
  refine lm_val 19 (by kernel_rfl) (fun w1 c1 => (op_move (v := .int .i64 _) rfl)) ?_
  refine lm_call 20 (V := (fun (r : (List Int) × Int) (u : (Option Addr) × Nat × Nat) => .tuple #[.slice u.1 u.2.1 u.2.2, .int .i64 r.2])) (HR := (fun (r : (List Int) × Int) (u : (Option Addr) × Nat × Nat) => [ownE 3 1 encI u.1 u.2.1 u.2.2 r.1])) (by kernel_rfl) (fun w1 => op_call (by kernel_rfl)) (fun r1 hr1 w1 c1 => m_recyclingref18_Counts_ok N w1 p0 p4 A_p0 n_p0 c_p0 (hr_p0.old c1) hz_p0 r1 hr1) ?_
  intro r2 u3
  refine lm_val 17 (by kernel_rfl) (fun w1 c1 => (op_move (v := .tuple _) rfl)) ?_
  refine lm_val 21 (by kernel_rfl) (fun w1 c1 => (op_extract (v := .slice _ _ _) rfl rfl)) ?_
  refine lm_val 22 (by kernel_rfl) (fun w1 c1 => (op_extract (v := .int .i64 _) rfl rfl)) ?_
  refine lm_val 12 (by kernel_rfl) (fun w1 c1 => (op_assign (v := .slice _ _ _) rfl)) ?_
  refine lm_val 13 (by kernel_rfl) (fun w1 c1 => (op_assign (v := .int .i64 _) rfl)) ?_
  refine lm_nil ?_
  refine xm_next ?_
  refine cm_seq ?_
  refine cm_seq ?_
  refine cm_region ?_
  refine lm_val 23 (by kernel_rfl) (fun w1 c1 => (op_move (v := .int .i64 _) rfl)) ?_
  refine lm_val 24 (by kernel_rfl) (fun w1 c1 => (op_neq rfl rfl)) ?_
  refine lm_nil ?_
  refine xm_next ?_
  refine cm_cond (by kernel_rfl) rfl (fun h4 => ?_) (fun h4 => ?_)
  · skip
    refine cm_seq ?_
    refine cm_region ?_
    refine lm_val 25 (by kernel_rfl) (fun w1 c1 => (op_move (v := .int .i64 _) rfl)) ?_
    refine lm_val 10 (by kernel_rfl) (fun w1 c1 => (op_assign (v := .slice _ _ _) rfl)) ?_
    refine lm_val 11 (by kernel_rfl) (fun w1 c1 => (op_assign (v := .int .i64 _) rfl)) ?_
    refine lm_nil ?_
    refine xm_next ?_
    refine cm_ret ?_
    refine xm_thenR ?_
    refine xm_nilrow 3 1 encI ?_
    exact xm_retTT rfl (by kernel_rfl) (show _ = Value.slice _ _ _ from rfl) (by kernel_rfl) (show _ = Value.int .i64 _ from rfl) fun w1 c1 => ⟨(none, 0, 0), rfl, hsub [0] (by kernel_rfl) rfl w1 c1⟩
  · skip
    refine cm_skip ?_
    refine xm_next ?_
    refine cm_seq ?_
    refine cm_seq ?_
    refine cm_region ?_
    refine lm_val 26 (by kernel_rfl) (fun w1 c1 => (op_loadR [.int .i64 _, .int .i64 _] rfl (by kernel_rfl) (c1.cells 1 rfl rfl))) ?_
    refine lm_call 27 (V := (fun (r : Bool) (_u : Unit) => .bool r)) (HR := (fun (_r : Bool) (_u : Unit) => [])) (by kernel_rfl) (fun w1 => op_call (by kernel_rfl)) (fun r1 hr1 w1 c1 => m_recyclingref18_Window_ok N w1 p3  r1 hr1) ?_
    intro r5 u6
    refine lm_val 28 (by kernel_rfl) (fun w1 c1 => (op_not rfl)) ?_
    refine lm_nil ?_
    refine xm_next ?_
    refine cm_condB (by kernel_rfl) rfl (fun h7 => ?_) (fun h7 => ?_)
    · skip
      refine cm_seq ?_
      refine cm_region ?_
      refine lm_val 10 (by kernel_rfl) (fun w1 c1 => (op_assign (v := .slice _ _ _) rfl)) ?_
      refine lm_val 11 (by kernel_rfl) (fun w1 c1 => (op_assign (v := .int .i64 _) rfl)) ?_
      refine lm_nil ?_
      refine xm_next ?_
      refine cm_ret ?_
      refine xm_thenR ?_
      refine xm_nilrow 3 1 encI ?_
      exact xm_retTT rfl (by kernel_rfl) (show _ = Value.slice _ _ _ from rfl) (by kernel_rfl) (show _ = Value.int .i64 _ from rfl) fun w1 c1 => ⟨(none, 0, 0), rfl, hsub [0] (by kernel_rfl) rfl w1 c1⟩
    · skip
      refine cm_skip ?_
      refine xm_next ?_
      refine cm_seq ?_
      refine cm_region ?_
      refine lm_val 14 (by kernel_rfl) (fun w1 c1 => (op_assign (v := .slice _ _ _) rfl)) ?_
      refine lm_nil ?_
      refine xm_next ?_
      refine cm_join (σ := (List Int)) (ξ := (Option Addr) × Nat × Nat) (fun s128 u129 => [(14, .slice u129.1 u129.2.1 u129.2.2)]) (fun s128 u129 => [ownE 3 1 encI u129.1 u129.2.1 u129.2.2 s128]) ?_ ?_
      · skip
        refine cm_seq ?_
        refine cm_region ?_
        refine lm_val 15 (by kernel_rfl) (fun w1 c1 => (op_assign (v := .int .i64 _) rfl)) ?_
        refine lm_nil ?_
        refine xm_next ?_
        refine cm_block ?_
        refine cm_nilrow 3 1 encI ?_
        refine cm_loop (σ := (List Int) × Int) (ξ := (Option Addr) × Nat × Nat) (fun s210 u211 => [(0, .slice A_p0 n_p0 c_p0), (1, .slice A_p1 n_p1 c_p1), (2, .int .i64 p2), (8, .pointer (some ⟨b1, 0, none⟩)), (12, .slice u3.1 u3.2.1 u3.2.2), (14, .slice u211.1 u211.2.1 u211.2.2), (15, .int .i64 s210.2)]) (fun s210 u211 => [blkE b1 35 [.int .i64 p3.From, .int .i64 p3.To], ownE 3 1 encI u3.1 u3.2.1 u3.2.2 r2.1, ownE 3 1 encI u211.1 u211.2.1 u211.2.2 s210.1]) (none, 0, 0) ?_ ?_ ?_
        · exact (sub_cons (by kernel_rfl) rfl (sub_cons (by kernel_rfl) rfl (sub_cons (by kernel_rfl) rfl (sub_cons (by kernel_rfl) rfl (sub_cons (by kernel_rfl) rfl (sub_cons (by kernel_rfl) rfl (sub_cons (by kernel_rfl) rfl sub_nil)))))))
        · exact hsub [2, 1, 0] (by kernel_rfl) rfl
        intro s210 u211
        refine cm_seq ?_
        refine cm_seq ?_
        refine cm_region ?_
        refine lm_val 29 (by kernel_rfl) (fun w1 c1 => (op_move (v := .int .i64 _) rfl)) ?_
        refine lm_val 30 (by kernel_rfl) (fun w1 c1 => (op_move (v := .slice _ _ _) rfl)) ?_
        refine lm_val 31 (by kernel_rfl) (fun w1 c1 => (op_lenN rfl (by kernel_rfl) (c1.ownZ 1 rfl).2.2)) ?_
        refine lm_val 32 (by kernel_rfl) (fun w1 c1 => (op_lss rfl rfl)) ?_
        refine lm_nil ?_
        refine xm_next ?_
        refine cm_cond (by kernel_rfl) rfl (fun h212 => ?_) (fun h212 => ?_)
        · skip
          refine cm_skip ?_
          refine xm_next ?_
          refine cm_join (σ := (List Int)) (ξ := (Option Addr) × Nat × Nat) (fun s230 u231 => [(0, .slice A_p0 n_p0 c_p0), (1, .slice A_p1 n_p1 c_p1), (2, .int .i64 p2), (8, .pointer (some ⟨b1, 0, none⟩)), (12, .slice u3.1 u3.2.1 u3.2.2), (14, .slice u231.1 u231.2.1 u231.2.2), (15, .int .i64 s210.2)]) (fun s230 u231 => [blkE b1 35 [.int .i64 p3.From, .int .i64 p3.To], ownE 3 1 encI u3.1 u3.2.1 u3.2.2 r2.1, ownE 3 1 encI u231.1 u231.2.1 u231.2.2 s230]) ?_ ?_
          · skip
            refine cm_block ?_
            refine cm_seq ?_
            refine cm_region ?_
            refine lm_val 35 (by kernel_rfl) (fun w1 c1 => (op_move (v := .slice _ _ _) rfl)) ?_
            refine lm_val 36 (by kernel_rfl) (fun w1 c1 => (op_move (v := .slice _ _ _) rfl)) ?_
            refine lm_val 37 (by kernel_rfl) (fun w1 c1 => (op_move (v := .int .i64 _) rfl)) ?_
            refine lm_ck (fun h232 => ?_)
            refine lm_val 38 (by kernel_rfl) (fun w1 c1 => (op_indexA 1 rfl rfl (by kernel_rfl) ((c1.own 1 rfl encI_len).addr h232.1 h232.2) (c1.ownZ 1 rfl).2.2 h232.1 h232.2)) ?_
            refine lm_val 39 (by kernel_rfl) (fun w1 c1 => (op_load (v := .int .i64 (ix r2.1 s210.2)) rfl (by kernel_rfl) ((c1.own 1 rfl encI_len).cell0 h232.1 h232.2 rfl))) ?_
            refine lm_ck (fun h233 => ?_)
            refine lm_val 40 (by kernel_rfl) (fun w1 c1 => (op_indexA 7 rfl rfl (by kernel_rfl) ((hr_p0.old c1).addr h233.1 h233.2) hz_p0.2.2 h233.1 h233.2)) ?_
            refine lm_val 41 (by kernel_rfl) (fun w1 c1 => (op_loadR [.int .i64 ((ix p0 (ix r2.1 s210.2)).ID), .int .i64 ((ix p0 (ix r2.1 s210.2)).Container), .int .i64 ((ix p0 (ix r2.1 s210.2)).Vehicle), .int .i64 ((ix p0 (ix r2.1 s210.2)).At), .int .i64 ((ix p0 (ix r2.1 s210.2)).Mass.Lo), .int .i64 ((ix p0 (ix r2.1 s210.2)).Mass.Hi), .bool ((ix p0 (ix r2.1 s210.2)).Void)] rfl (by kernel_rfl) ((hr_p0.old c1).row h233.1 h233.2))) ?_
            refine lm_alloc 16 [.int .i64 0, .int .i64 0, .int .i64 0, .int .i64 0, .int .i64 0, .int .i64 0, .bool false] (v := .agg #[.int .i64 0, .int .i64 0, .int .i64 0, .int .i64 0, .int .i64 0, .int .i64 0, .bool false]) (by kernel_rfl) (by kernel_rfl) rfl ?_
            intro b234
            refine lm_storeA 0 [.int .i64 _, .int .i64 _, .int .i64 _, .int .i64 _, .int .i64 _, .int .i64 _, .bool _] [_, _, _, _, _, _, _] (H' := [blkE _ _ [_, _, _, _, _, _, _], _, _, _]) (by kernel_rfl) rfl rfl (by kernel_rfl) rfl rfl (by kernel_rfl) rfl rfl ?_
            refine lm_nil ?_
            refine xm_next ?_
            refine cm_seq ?_
            refine cm_callIf fun r235 h236 => ?_
            refine cm_cutE [(62, .bool (((decide (p3.From ≤ (ix p0 (ix r2.1 s210.2)).At)) && (decide ((ix p0 (ix r2.1 s210.2)).At < p3.To))) && r235))] ?_ ?_
            · skip
              refine wq_val 42 (by kernel_rfl) (fun w1 c1 => (op_fieldL (m := 0) (k := 0) rfl (by kernel_rfl) rfl)) ?_
              refine wq_val 43 (by kernel_rfl) (fun w1 c1 => (op_load rfl (by kernel_rfl) (c1.cell 1 (u := .int .i64 _) rfl rfl))) ?_
              refine wq_val 44 (by kernel_rfl) (fun w1 c1 => (op_fieldL (m := 3) (k := 3) rfl (by kernel_rfl) rfl)) ?_
              refine wq_val 45 (by kernel_rfl) (fun w1 c1 => (op_load rfl (by kernel_rfl) (c1.cell 0 (u := .int .i64 _) rfl rfl))) ?_
              refine wq_dec 46 (by kernel_rfl) (fun w1 c1 => (op_leq rfl rfl)) (fun h237 => ?_) (fun h237 => ?_)
              · skip
                refine wq_val 47 (by kernel_rfl) (fun w1 c1 => (op_move (v := .bool true) rfl)) ?_
                refine wq_val 48 (by kernel_rfl) (fun w1 c1 => (op_fieldL (m := 3) (k := 3) rfl (by kernel_rfl) rfl)) ?_
                refine wq_val 49 (by kernel_rfl) (fun w1 c1 => (op_load rfl (by kernel_rfl) (c1.cell 0 (u := .int .i64 _) rfl rfl))) ?_
                refine wq_val 50 (by kernel_rfl) (fun w1 c1 => (op_fieldL (m := 1) (k := 1) rfl (by kernel_rfl) rfl)) ?_
                refine wq_val 51 (by kernel_rfl) (fun w1 c1 => (op_load rfl (by kernel_rfl) (c1.cell 1 (u := .int .i64 _) rfl rfl))) ?_
                refine wq_dec 52 (by kernel_rfl) (fun w1 c1 => (op_lss rfl rfl)) (fun h238 => ?_) (fun h238 => ?_)
                · skip
                  refine wq_val 53 (by kernel_rfl) (fun w1 c1 => (op_pick_t (v := .bool true) rfl rfl)) ?_
                  refine wq_val 54 (by kernel_rfl) (fun w1 c1 => (op_move (v := .bool true) rfl)) ?_
                  refine wq_val 55 (by kernel_rfl) (fun w1 c1 => (op_move (v := .slice _ _ _) rfl)) ?_
                  refine wq_val 56 (by kernel_rfl) (fun w1 c1 => (op_fieldL (m := 1) (k := 1) rfl (by kernel_rfl) rfl)) ?_
                  refine wq_val 57 (by kernel_rfl) (fun w1 c1 => (op_load rfl (by kernel_rfl) (c1.cell 0 (u := .int .i64 _) rfl rfl))) ?_
                  refine wq_val 58 (by kernel_rfl) (fun w1 c1 => (op_move (v := .int .i64 _) rfl)) ?_
                  refine wq_val 59 (by kernel_rfl) (fun w1 c1 => (op_fieldL (m := 3) (k := 3) rfl (by kernel_rfl) rfl)) ?_
                  refine wq_val 60 (by kernel_rfl) (fun w1 c1 => (op_load rfl (by kernel_rfl) (c1.cell 0 (u := .int .i64 _) rfl rfl))) ?_
                  refine wq_call 61 (by kernel_rfl) (fun w1 c1 => op_call (by kernel_rfl)) (fun w1 c1 => (m_recyclingref18_Belongs_ok N w1 p1 ((ix p0 (ix r2.1 s210.2)).Container) p2 ((ix p0 (ix r2.1 s210.2)).At) A_p1 n_p1 c_p1 (hr_p1.old c1) hz_p1 r235 (h236 (by rw [decide_eq_true h237, decide_eq_true h238] <;> rfl))).mono (fun _ _ ⟨_, hx, hu⟩ => ⟨hx, c1.call hu⟩)) ?_
                  refine wq_val 62 (by kernel_rfl) (fun w1 c1 => (op_pick_t (v := .bool _) rfl rfl)) ?_
                  exact leaf_q (sub_out 21 _ rfl (by kernel_rfl) ⟨(congrArg Value.bool (by rw [decide_eq_true h237, decide_eq_true h238] <;> rfl)), trivial⟩)
                · skip
                  refine wq_val 53 (by kernel_rfl) (fun w1 c1 => (op_pick_t (v := .bool false) rfl rfl)) ?_
                  refine wq_val 54 (by kernel_rfl) (fun w1 c1 => (op_move (v := .bool false) rfl)) ?_
                  refine wq_skip 55 (by kernel_rfl) ?_
                  refine wq_skip 56 (by kernel_rfl) ?_
                  refine wq_skip 57 (by kernel_rfl) ?_
                  refine wq_skip 58 (by kernel_rfl) ?_
                  refine wq_skip 59 (by kernel_rfl) ?_
                  refine wq_skip 60 (by kernel_rfl) ?_
                  refine wq_skip 61 (by kernel_rfl) ?_
                  refine wq_val 62 (by kernel_rfl) (fun w1 c1 => (op_pick_f (v := .bool false) rfl rfl)) ?_
                  exact leaf_q (sub_out 21 _ rfl (by kernel_rfl) ⟨(congrArg Value.bool (by rw [decide_eq_true h237, decide_eq_false h238] <;> rfl)), trivial⟩)
              · skip
                refine wq_val 47 (by kernel_rfl) (fun w1 c1 => (op_move (v := .bool false) rfl)) ?_
                refine wq_skip 48 (by kernel_rfl) ?_
                refine wq_skip 49 (by kernel_rfl) ?_
                refine wq_skip 50 (by kernel_rfl) ?_
                refine wq_skip 51 (by kernel_rfl) ?_
                refine wq_skip 52 (by kernel_rfl) ?_
                refine wq_val 53 (by kernel_rfl) (fun w1 c1 => (op_pick_f (v := .bool false) rfl rfl)) ?_
                refine wq_val 54 (by kernel_rfl) (fun w1 c1 => (op_move (v := .bool false) rfl)) ?_
                refine wq_skip 55 (by kernel_rfl) ?_
                refine wq_skip 56 (by kernel_rfl) ?_
                refine wq_skip 57 (by kernel_rfl) ?_
                refine wq_skip 58 (by kernel_rfl) ?_
                refine wq_skip 59 (by kernel_rfl) ?_
                refine wq_skip 60 (by kernel_rfl) ?_
                refine wq_skip 61 (by kernel_rfl) ?_
                refine wq_val 62 (by kernel_rfl) (fun w1 c1 => (op_pick_f (v := .bool false) rfl rfl)) ?_
                exact leaf_q (sub_out 21 _ rfl (by kernel_rfl) ⟨(congrArg Value.bool (by rw [decide_eq_false h237] <;> rfl)), trivial⟩)
            refine xm_next ?_
            refine cm_condB (by kernel_rfl) rfl (fun h239 => ?_) (fun h239 => ?_)
            · skip
              refine cm_region ?_
              refine lm_val 63 (by kernel_rfl) (fun w1 c1 => (op_move (v := .slice _ _ _) rfl)) ?_
              refine lm_val 64 (by kernel_rfl) (fun w1 c1 => (op_move (v := .slice _ _ _) rfl)) ?_
              refine lm_val 65 (by kernel_rfl) (fun w1 c1 => (op_move (v := .int .i64 _) rfl)) ?_
              refine lm_ck (fun h240 => ?_)
              refine lm_val 66 (by kernel_rfl) (fun w1 c1 => (op_indexA 1 rfl rfl (by kernel_rfl) ((c1.own 2 rfl encI_len).addr h240.1 h240.2) (c1.ownZ 2 rfl).2.2 h240.1 h240.2)) ?_
              refine lm_val 67 (by kernel_rfl) (fun w1 c1 => (op_load (v := .int .i64 (ix r2.1 s210.2)) rfl (by kernel_rfl) ((c1.own 2 rfl encI_len).cell0 h240.1 h240.2 rfl))) ?_
              refine lm_slice1 68 (el := 3) (sz := 1) (bytes := 8) (enc := encI) (ix r2.1 s210.2) (by kernel_rfl) (by kernel_rfl) encI_len rfl (by kernel_rfl) ?_
              intro A241 n242 k243 h244
              refine lm_ck (fun h245 => ?_)
              refine lm_append 69 4 (el := 3) (sz := 1) (bytes := 8) (enc := encI) (l2 := ([(ix r2.1 s210.2)])) (by kernel_rfl) (by kernel_rfl) encI_len encI_one rfl rfl rfl (fun w1 c1 => (c1.ownZ 0 rfl)) (fun w1 c1 => (c1.own 0 rfl encI_len)) h245 ?_ (by kernel_rfl)
              intro A246 n247 k248
              refine lm_val 14 (by kernel_rfl) (fun w1 c1 => (op_assign (v := .slice _ _ _) rfl)) ?_
              refine lm_nil ?_
              refine xm_inN ?_
              exact xm_lnext (A246, n247, k248) (sub_cons (by kernel_rfl) rfl (sub_cons (by kernel_rfl) rfl (sub_cons (by kernel_rfl) rfl (sub_cons (by kernel_rfl) rfl (sub_cons (by kernel_rfl) rfl (sub_cons (by kernel_rfl) rfl (sub_cons (by kernel_rfl) rfl sub_nil))))))) (hsub [2, 3, 4] (by kernel_rfl) rfl)
            · skip
              refine cm_skip ?_
              refine xm_inN ?_
              exact xm_lnext (u211.1, u211.2.1, u211.2.2) (sub_cons (by kernel_rfl) rfl (sub_cons (by kernel_rfl) rfl (sub_cons (by kernel_rfl) rfl (sub_cons (by kernel_rfl) rfl (sub_cons (by kernel_rfl) rfl (sub_cons (by kernel_rfl) rfl (sub_cons (by kernel_rfl) rfl sub_nil))))))) (hsub [1, 2, 3] (by kernel_rfl) rfl)
          intro s230 u231
          refine cm_region ?_
          refine lm_val 33 (by kernel_rfl) (fun w1 c1 => (op_move (v := .int .i64 _) rfl)) ?_
          refine lm_ck (fun h249 => ?_)
          refine lm_val 34 (by kernel_rfl) (fun w1 c1 => (op_add rfl rfl h249)) ?_
          refine lm_val 15 (by kernel_rfl) (fun w1 c1 => (op_assign (v := .int .i64 _) rfl)) ?_
          refine lm_nil ?_
          exact xm_lnext (u231.1, u231.2.1, u231.2.2) (sub_cons (by kernel_rfl) rfl (sub_cons (by kernel_rfl) rfl (sub_cons (by kernel_rfl) rfl (sub_cons (by kernel_rfl) rfl (sub_cons (by kernel_rfl) rfl (sub_cons (by kernel_rfl) rfl (sub_cons (by kernel_rfl) rfl sub_nil))))))) (hsub [0, 1, 2] (by kernel_rfl) rfl)
        · skip
          refine cm_exit ?_
          refine xm_thenE ?_
          refine xm_lexit ?_
          refine xm_here ?_
          exact xm_lnext (u211.1, u211.2.1, u211.2.2) (sub_cons (by kernel_rfl) rfl sub_nil) (hsub [2] (by kernel_rfl) rfl)
      intro s128 u129
      refine cm_seq ?_
      refine cm_region ?_
      refine lm_val 70 (by kernel_rfl) (fun w1 c1 => (op_move (v := .slice _ _ _) rfl)) ?_
      refine lm_val 10 (by kernel_rfl) (fun w1 c1 => (op_assign (v := .slice _ _ _) rfl)) ?_
      refine lm_val 11 (by kernel_rfl) (fun w1 c1 => (op_assign (v := .int .i64 _) rfl)) ?_
      refine lm_nil ?_
      refine xm_next ?_
      refine cm_ret ?_
      exact xm_retTT rfl (by kernel_rfl) (show _ = Value.slice _ _ _ from rfl) (by kernel_rfl) (show _ = Value.int .i64 _ from rfl) fun w1 c1 => ⟨(u129.1, u129.2.1, u129.2.2), rfl, hsub [0] (by kernel_rfl) rfl w1 c1⟩
/-- recyclingref18.Mass -/
def m_recyclingref18_Mass (N : Nat) (p0 : (List ApiEmptying)) (p1 : Int) (p2 : ApiWindow) : Option (ApiSpan × Int) :=
  Option.bind (m_recyclingref18_Check N p0 (256 : Int) (16 : Int)) fun r3 => (if r3 ≠ 0 then
    some (((ApiSpan.mk 0 0), r3))
  else
    Option.bind (m_recyclingref18_Window N p2) fun r6 => (if (!r6) = true then
      some (((ApiSpan.mk 0 0), (1 : Int)))
    else
      (andThen
        (loopM (fun (s362 : Int × Int × Int) =>
          (if s362.2.2 < (List.length p0 : Int) then
            (andThen
              (ck ((0 : Int) ≤ s362.2.2 ∧ s362.2.2 < (List.length p0 : Int)) (
                ck ((!((ix p0 s362.2.2).Void)) = true → (0 : Int) ≤ s362.2.2 ∧ s362.2.2 < (List.length p0 : Int)) (
                  ck (((!((ix p0 s362.2.2).Void)) && (decide ((ix p0 s362.2.2).Vehicle = p1))) = true → (0 : Int) ≤ s362.2.2 ∧ s362.2.2 < (List.length p0 : Int)) (
                    ck ((((!((ix p0 s362.2.2).Void)) && (decide ((ix p0 s362.2.2).Vehicle = p1))) && (decide (p2.From ≤ (ix p0 s362.2.2).At))) = true → (0 : Int) ≤ s362.2.2 ∧ s362.2.2 < (List.length p0 : Int)) (
                      (if ((((!((ix p0 s362.2.2).Void)) && (decide ((ix p0 s362.2.2).Vehicle = p1))) && (decide (p2.From ≤ (ix p0 s362.2.2).At))) && (decide ((ix p0 s362.2.2).At < p2.To))) = true then
                        ck ((0 : Int) ≤ s362.2.2 ∧ s362.2.2 < (List.length p0 : Int)) (
                          ck (I64 (s362.1 + ((ix p0 s362.2.2).Mass.Lo))) (
                            ck ((0 : Int) ≤ s362.2.2 ∧ s362.2.2 < (List.length p0 : Int)) (
                              ck (I64 (s362.2.1 + ((ix p0 s362.2.2).Mass.Hi))) (
                                some (.next ((s362.1 + ((ix p0 s362.2.2).Mass.Lo)), (s362.2.1 + ((ix p0 s362.2.2).Mass.Hi))))))))
                      else
                        some (.next (s362.1, s362.2.1))))))))
            fun (s397 : Int × Int) =>
              ck (I64 (s362.2.2 + (1 : Int))) (
                some (.next (s397.1, s397.2, (s362.2.2 + (1 : Int))))))
          else
            some (.done (.next (s362.1, s362.2.1))))) N ((0 : Int), (0 : Int), (0 : Int)))
      fun (s220 : Int × Int) =>
        some (((ApiSpan.mk s220.1 s220.2), (0 : Int))))))
set_option maxRecDepth 20000 in
theorem m_recyclingref18_Mass_ok (N : Nat) (w0 : World) (p0 : (List ApiEmptying)) (p1 : Int) (p2 : ApiWindow) (A_p0 : Option Addr) (n_p0 c_p0 : Nat) (hr_p0 : RdE w0 7 encApiEmptying A_p0 p0) (hz_p0 : SW A_p0 n_p0 c_p0 (List.length p0)) (r : ApiSpan × Int) (hr : m_recyclingref18_Mass N p0 p1 p2 = some r) :
    Calls Try.prog 21 [.slice A_p0 n_p0 c_p0, .int .i64 p1, .agg #[.int .i64 p2.From, .int .i64 p2.To]].toArray w0 fun x w1 => ∃ u, x = .returned ((fun (r : ApiSpan × Int) (_u : Unit) => .tuple #[.agg #[.int .i64 r.1.Lo, .int .i64 r.1.Hi], .int .i64 r.2]) r u) ∧ Hs w0 ((fun (_r : ApiSpan × Int) (_u : Unit) => []) r u) w1 := by
  refine calls_cm (n := 84) (R := fun r x w1 => ∃ u, x = .returned ((fun (r : ApiSpan × Int) (_u : Unit) => .tuple #[.agg #[.int .i64 r.1.Lo, .int .i64 r.1.Hi], .int .i64 r.2]) r u) ∧ Hs w0 ((fun (_r : ApiSpan × Int) (_u : Unit) => []) r u) w1) Try.func21 rfl rfl (Nat.le_of_ble_eq_true rfl) ?_ r hr
  unfold m_recyclingref18_Mass
  refine cm_seq ?_
  refine cm_region ?_
  refine lm_box 5 [.int .i64 _, .int .i64 _] (by kernel_rfl) rfl ?_
  intro b1
  refine lm_alloc 6 [.int .i64 0, .int .i64 0] (v := .agg #[.int .i64 0, .int .i64 0]) (by kernel_rfl) (by kernel_rfl) rfl ?_
  intro b2
  refine lm_val 7 (by kernel_rfl) (fun w1 c1 => (op_assign (v := .int .i64 _) rfl)) ?_
  refine lm_nil ?_
  refine xm_next ?_
  refine cm_seq ?_
  refine cm_seq ?_
  refine cm_region ?_
  refine lm_val 11 (by kernel_rfl) (fun w1 c1 => (op_move (v := .slice _ _ _) rfl)) ?_
  refine lm_call 12 (V := (fun (r : Int) (_u : Unit) => .int .i64 r)) (HR := (fun (_r : Int) (_u : Unit) => [])) (by kernel_rfl) (fun w1 => op_call (by kernel_rfl)) (fun r1 hr1 w1 c1 => m_recyclingref18_Check_ok N w1 p0 (256 : Int) (16 : Int) A_p0 n_p0 c_p0 (hr_p0.old c1) hz_p0 r1 hr1) ?_
  intro r3 u4
  refine lm_val 8 (by kernel_rfl) (fun w1 c1 => (op_assign (v := .int .i64 _) rfl)) ?_
  refine lm_nil ?_
  refine xm_next ?_
  refine cm_seq ?_
  refine cm_region ?_
  refine lm_val 13 (by kernel_rfl) (fun w1 c1 => (op_move (v := .int .i64 _) rfl)) ?_
  refine lm_val 14 (by kernel_rfl) (fun w1 c1 => (op_neq rfl rfl)) ?_
  refine lm_nil ?_
  refine xm_next ?_
  refine cm_cond (by kernel_rfl) rfl (fun h5 => ?_) (fun h5 => ?_)
  · skip
    refine cm_seq ?_
    refine cm_region ?_
    refine lm_val 15 (by kernel_rfl) (fun w1 c1 => (op_build (z := [.int .i64 0, .int .i64 0]) (tab := [(0, 1), (1, 1)]) (cs := [.int .i64 _, .int .i64 _]) [] (by kernel_rfl) (by kernel_rfl) fillOk_nil rfl)) ?_
    refine lm_val 16 (by kernel_rfl) (fun w1 c1 => (op_move (v := .int .i64 _) rfl)) ?_
    refine lm_storeA 0 [.int .i64 _, .int .i64 _] [_, _] (H' := [blkE _ _ [_, _], _]) (by kernel_rfl) rfl rfl (by kernel_rfl) rfl rfl (by kernel_rfl) rfl rfl ?_
    refine lm_val 7 (by kernel_rfl) (fun w1 c1 => (op_assign (v := .int .i64 _) rfl)) ?_
    refine lm_nil ?_
    refine xm_next ?_
    refine cm_ret ?_
    refine xm_thenR ?_
    exact xm_retCT rfl (by kernel_rfl) (show _ = Value.pointer (some ⟨_, 0, none⟩) from rfl) (by kernel_rfl) (fun w1 c1 => c1.cells 0 (ds := [.int .i64 _, .int .i64 _]) rfl rfl) (by kernel_rfl) (show _ = Value.int .i64 _ from rfl) fun w1 c1 => ⟨(), rfl, hsub [] (by kernel_rfl) rfl w1 c1⟩
  · skip
    refine cm_skip ?_
    refine xm_next ?_
    refine cm_seq ?_
    refine cm_seq ?_
    refine cm_region ?_
    refine lm_val 17 (by kernel_rfl) (fun w1 c1 => (op_loadR [.int .i64 _, .int .i64 _] rfl (by kernel_rfl) (c1.cells 1 rfl rfl))) ?_
    refine lm_call 18 (V := (fun (r : Bool) (_u : Unit) => .bool r)) (HR := (fun (_r : Bool) (_u : Unit) => [])) (by kernel_rfl) (fun w1 => op_call (by kernel_rfl)) (fun r1 hr1 w1 c1 => m_recyclingref18_Window_ok N w1 p2  r1 hr1) ?_
    intro r6 u7
    refine lm_val 19 (by kernel_rfl) (fun w1 c1 => (op_not rfl)) ?_
    refine lm_nil ?_
    refine xm_next ?_
    refine cm_condB (by kernel_rfl) rfl (fun h8 => ?_) (fun h8 => ?_)
    · skip
      refine cm_seq ?_
      refine cm_region ?_
      refine lm_val 20 (by kernel_rfl) (fun w1 c1 => (op_build (z := [.int .i64 0, .int .i64 0]) (tab := [(0, 1), (1, 1)]) (cs := [.int .i64 _, .int .i64 _]) [] (by kernel_rfl) (by kernel_rfl) fillOk_nil rfl)) ?_
      refine lm_storeA 0 [.int .i64 _, .int .i64 _] [_, _] (H' := [blkE _ _ [_, _], _]) (by kernel_rfl) rfl rfl (by kernel_rfl) rfl rfl (by kernel_rfl) rfl rfl ?_
      refine lm_val 7 (by kernel_rfl) (fun w1 c1 => (op_assign (v := .int .i64 _) rfl)) ?_
      refine lm_nil ?_
      refine xm_next ?_
      refine cm_ret ?_
      refine xm_thenR ?_
      exact xm_retCT rfl (by kernel_rfl) (show _ = Value.pointer (some ⟨_, 0, none⟩) from rfl) (by kernel_rfl) (fun w1 c1 => c1.cells 0 (ds := [.int .i64 _, .int .i64 _]) rfl rfl) (by kernel_rfl) (show _ = Value.int .i64 _ from rfl) fun w1 c1 => ⟨(), rfl, hsub [] (by kernel_rfl) rfl w1 c1⟩
    · skip
      refine cm_skip ?_
      refine xm_next ?_
      refine cm_seq ?_
      refine cm_region ?_
      refine lm_val 21 (by kernel_rfl) (fun w1 c1 => (op_build (z := [.int .i64 0, .int .i64 0]) (tab := [(0, 1), (1, 1)]) (cs := [.int .i64 _, .int .i64 _]) [] (by kernel_rfl) (by kernel_rfl) fillOk_nil rfl)) ?_
      refine lm_alloc 9 [.int .i64 0, .int .i64 0] (v := .agg #[.int .i64 0, .int .i64 0]) (by kernel_rfl) (by kernel_rfl) rfl ?_
      intro b9
      refine lm_storeA 0 [.int .i64 _, .int .i64 _] [_, _] (H' := [blkE _ _ [_, _], _, _]) (by kernel_rfl) rfl rfl (by kernel_rfl) rfl rfl (by kernel_rfl) rfl rfl ?_
      refine lm_nil ?_
      refine xm_next ?_
      refine cm_join (σ := Int × Int) (ξ := Unit) (fun s220 u221 => [(6, .pointer (some ⟨b2, 0, none⟩)), (9, .pointer (some ⟨b9, 0, none⟩))]) (fun s220 u221 => [blkE b2 41 [.int .i64 0, .int .i64 0], blkE b9 41 [.int .i64 s220.1, .int .i64 s220.2]]) ?_ ?_
      · skip
        refine cm_seq ?_
        refine cm_region ?_
        refine lm_val 10 (by kernel_rfl) (fun w1 c1 => (op_assign (v := .int .i64 _) rfl)) ?_
        refine lm_nil ?_
        refine xm_next ?_
        refine cm_block ?_
        refine cm_loop (σ := Int × Int × Int) (ξ := Unit) (fun s362 u363 => [(0, .slice A_p0 n_p0 c_p0), (1, .int .i64 p1), (5, .pointer (some ⟨b1, 0, none⟩)), (6, .pointer (some ⟨b2, 0, none⟩)), (9, .pointer (some ⟨b9, 0, none⟩)), (10, .int .i64 s362.2.2)]) (fun s362 u363 => [blkE b1 35 [.int .i64 p2.From, .int .i64 p2.To], blkE b2 41 [.int .i64 0, .int .i64 0], blkE b9 41 [.int .i64 s362.1, .int .i64 s362.2.1]]) () ?_ ?_ ?_
        · exact (sub_cons (by kernel_rfl) rfl (sub_cons (by kernel_rfl) rfl (sub_cons (by kernel_rfl) rfl (sub_cons (by kernel_rfl) rfl (sub_cons (by kernel_rfl) rfl (sub_cons (by kernel_rfl) rfl sub_nil))))))
        · exact hsub [2, 1, 0] (by kernel_rfl) rfl
        intro s362 u363
        refine cm_seq ?_
        refine cm_seq ?_
        refine cm_region ?_
        refine lm_val 22 (by kernel_rfl) (fun w1 c1 => (op_move (v := .int .i64 _) rfl)) ?_
        refine lm_val 23 (by kernel_rfl) (fun w1 c1 => (op_move (v := .slice _ _ _) rfl)) ?_
        refine lm_val 24 (by kernel_rfl) (fun w1 c1 => (op_lenN rfl (by kernel_rfl) hz_p0.2.2)) ?_
        refine lm_val 25 (by kernel_rfl) (fun w1 c1 => (op_lss rfl rfl)) ?_
        refine lm_nil ?_
        refine xm_next ?_
        refine cm_cond (by kernel_rfl) rfl (fun h364 => ?_) (fun h364 => ?_)
        · skip
          refine cm_skip ?_
          refine xm_next ?_
          refine cm_join (σ := Int × Int) (ξ := Unit) (fun s397 u398 => [(0, .slice A_p0 n_p0 c_p0), (1, .int .i64 p1), (5, .pointer (some ⟨b1, 0, none⟩)), (6, .pointer (some ⟨b2, 0, none⟩)), (9, .pointer (some ⟨b9, 0, none⟩)), (10, .int .i64 s362.2.2)]) (fun s397 u398 => [blkE b1 35 [.int .i64 p2.From, .int .i64 p2.To], blkE b2 41 [.int .i64 0, .int .i64 0], blkE b9 41 [.int .i64 s397.1, .int .i64 s397.2]]) ?_ ?_
          · skip
            refine cm_block ?_
            refine cm_seq ?_
            refine cm_ck (fun h399 => ?_)
            refine cm_ck (fun h400 => ?_)
            refine cm_ck (fun h401 => ?_)
            refine cm_ck (fun h402 => ?_)
            refine cm_drawn [(62, .bool ((((!((ix p0 s362.2.2).Void)) && (decide ((ix p0 s362.2.2).Vehicle = p1))) && (decide (p2.From ≤ (ix p0 s362.2.2).At))) && (decide ((ix p0 s362.2.2).At < p2.To))))] (by kernel_rfl) (by kernel_rfl) ?_ ?_
            · skip
              refine wq_val 28 (by kernel_rfl) (fun w1 c1 => (op_move (v := .slice _ _ _) rfl)) ?_
              refine wq_val 29 (by kernel_rfl) (fun w1 c1 => (op_move (v := .int .i64 _) rfl)) ?_
              refine wq_val 30 (by kernel_rfl) (fun w1 c1 => (op_indexA 7 rfl rfl (by kernel_rfl) ((hr_p0.old c1).addr h399.1 h399.2) hz_p0.2.2 h399.1 h399.2)) ?_
              refine wq_val 31 (by kernel_rfl) (fun w1 c1 => (op_field (m := 6) rfl (by kernel_rfl))) ?_
              refine wq_bool 32 (by kernel_rfl) (fun w1 c1 => (op_load (v := .bool ((ix p0 s362.2.2).Void)) rfl (by kernel_rfl) ((hr_p0.old c1).cell (j := 6) h399.1 h399.2 rfl))) (fun h403 => ?_) (fun h403 => ?_)
              · skip
                refine wq_val 33 (by kernel_rfl) (fun w1 c1 => (op_nott rfl)) ?_
                refine wq_val 34 (by kernel_rfl) (fun w1 c1 => (op_move (v := .bool false) rfl)) ?_
                refine wq_skip 35 (by kernel_rfl) ?_
                refine wq_skip 36 (by kernel_rfl) ?_
                refine wq_skip 37 (by kernel_rfl) ?_
                refine wq_skip 38 (by kernel_rfl) ?_
                refine wq_skip 39 (by kernel_rfl) ?_
                refine wq_skip 40 (by kernel_rfl) ?_
                refine wq_skip 41 (by kernel_rfl) ?_
                refine wq_val 42 (by kernel_rfl) (fun w1 c1 => (op_pick_f (v := .bool false) rfl rfl)) ?_
                refine wq_val 43 (by kernel_rfl) (fun w1 c1 => (op_move (v := .bool false) rfl)) ?_
                refine wq_skip 44 (by kernel_rfl) ?_
                refine wq_skip 45 (by kernel_rfl) ?_
                refine wq_skip 46 (by kernel_rfl) ?_
                refine wq_skip 47 (by kernel_rfl) ?_
                refine wq_skip 48 (by kernel_rfl) ?_
                refine wq_skip 49 (by kernel_rfl) ?_
                refine wq_skip 50 (by kernel_rfl) ?_
                refine wq_skip 51 (by kernel_rfl) ?_
                refine wq_val 52 (by kernel_rfl) (fun w1 c1 => (op_pick_f (v := .bool false) rfl rfl)) ?_
                refine wq_val 53 (by kernel_rfl) (fun w1 c1 => (op_move (v := .bool false) rfl)) ?_
                refine wq_skip 54 (by kernel_rfl) ?_
                refine wq_skip 55 (by kernel_rfl) ?_
                refine wq_skip 56 (by kernel_rfl) ?_
                refine wq_skip 57 (by kernel_rfl) ?_
                refine wq_skip 58 (by kernel_rfl) ?_
                refine wq_skip 59 (by kernel_rfl) ?_
                refine wq_skip 60 (by kernel_rfl) ?_
                refine wq_skip 61 (by kernel_rfl) ?_
                refine wq_val 62 (by kernel_rfl) (fun w1 c1 => (op_pick_f (v := .bool false) rfl rfl)) ?_
                exact leaf_q (sub_out 35 _ rfl (by kernel_rfl) ⟨(congrArg Value.bool (by rw [h403] <;> rfl)), trivial⟩)
              · skip
                refine wq_val 33 (by kernel_rfl) (fun w1 c1 => (op_notf rfl)) ?_
                refine wq_val 34 (by kernel_rfl) (fun w1 c1 => (op_move (v := .bool true) rfl)) ?_
                refine wq_val 35 (by kernel_rfl) (fun w1 c1 => (op_move (v := .slice _ _ _) rfl)) ?_
                refine wq_val 36 (by kernel_rfl) (fun w1 c1 => (op_move (v := .int .i64 _) rfl)) ?_
                refine wq_val 37 (by kernel_rfl) (fun w1 c1 => (op_indexA 7 rfl rfl (by kernel_rfl) ((hr_p0.old c1).addr (h400 (by rw [h403] <;> rfl)).1 (h400 (by rw [h403] <;> rfl)).2) hz_p0.2.2 (h400 (by rw [h403] <;> rfl)).1 (h400 (by rw [h403] <;> rfl)).2)) ?_
                refine wq_val 38 (by kernel_rfl) (fun w1 c1 => (op_field (m := 2) rfl (by kernel_rfl))) ?_
                refine wq_val 39 (by kernel_rfl) (fun w1 c1 => (op_load (v := .int .i64 ((ix p0 s362.2.2).Vehicle)) rfl (by kernel_rfl) ((hr_p0.old c1).cell (j := 2) (h400 (by rw [h403] <;> rfl)).1 (h400 (by rw [h403] <;> rfl)).2 rfl))) ?_
                refine wq_val 40 (by kernel_rfl) (fun w1 c1 => (op_move (v := .int .i64 _) rfl)) ?_
                refine wq_dec 41 (by kernel_rfl) (fun w1 c1 => (op_eql rfl rfl)) (fun h404 => ?_) (fun h404 => ?_)
                · skip
                  refine wq_val 42 (by kernel_rfl) (fun w1 c1 => (op_pick_t (v := .bool true) rfl rfl)) ?_
                  refine wq_val 43 (by kernel_rfl) (fun w1 c1 => (op_move (v := .bool true) rfl)) ?_
                  refine wq_val 44 (by kernel_rfl) (fun w1 c1 => (op_fieldL (m := 0) (k := 0) rfl (by kernel_rfl) rfl)) ?_
                  refine wq_val 45 (by kernel_rfl) (fun w1 c1 => (op_load rfl (by kernel_rfl) (c1.cell 0 (u := .int .i64 _) rfl rfl))) ?_
                  refine wq_val 46 (by kernel_rfl) (fun w1 c1 => (op_move (v := .slice _ _ _) rfl)) ?_
                  refine wq_val 47 (by kernel_rfl) (fun w1 c1 => (op_move (v := .int .i64 _) rfl)) ?_
                  refine wq_val 48 (by kernel_rfl) (fun w1 c1 => (op_indexA 7 rfl rfl (by kernel_rfl) ((hr_p0.old c1).addr (h401 (by rw [h403, decide_eq_true h404] <;> rfl)).1 (h401 (by rw [h403, decide_eq_true h404] <;> rfl)).2) hz_p0.2.2 (h401 (by rw [h403, decide_eq_true h404] <;> rfl)).1 (h401 (by rw [h403, decide_eq_true h404] <;> rfl)).2)) ?_
                  refine wq_val 49 (by kernel_rfl) (fun w1 c1 => (op_field (m := 3) rfl (by kernel_rfl))) ?_
                  refine wq_val 50 (by kernel_rfl) (fun w1 c1 => (op_load (v := .int .i64 ((ix p0 s362.2.2).At)) rfl (by kernel_rfl) ((hr_p0.old c1).cell (j := 3) (h401 (by rw [h403, decide_eq_true h404] <;> rfl)).1 (h401 (by rw [h403, decide_eq_true h404] <;> rfl)).2 rfl))) ?_
                  refine wq_dec 51 (by kernel_rfl) (fun w1 c1 => (op_leq rfl rfl)) (fun h405 => ?_) (fun h405 => ?_)
                  · skip
                    refine wq_val 52 (by kernel_rfl) (fun w1 c1 => (op_pick_t (v := .bool true) rfl rfl)) ?_
                    refine wq_val 53 (by kernel_rfl) (fun w1 c1 => (op_move (v := .bool true) rfl)) ?_
                    refine wq_val 54 (by kernel_rfl) (fun w1 c1 => (op_move (v := .slice _ _ _) rfl)) ?_
                    refine wq_val 55 (by kernel_rfl) (fun w1 c1 => (op_move (v := .int .i64 _) rfl)) ?_
                    refine wq_val 56 (by kernel_rfl) (fun w1 c1 => (op_indexA 7 rfl rfl (by kernel_rfl) ((hr_p0.old c1).addr (h402 (by rw [h403, decide_eq_true h404, decide_eq_true h405] <;> rfl)).1 (h402 (by rw [h403, decide_eq_true h404, decide_eq_true h405] <;> rfl)).2) hz_p0.2.2 (h402 (by rw [h403, decide_eq_true h404, decide_eq_true h405] <;> rfl)).1 (h402 (by rw [h403, decide_eq_true h404, decide_eq_true h405] <;> rfl)).2)) ?_
                    refine wq_val 57 (by kernel_rfl) (fun w1 c1 => (op_field (m := 3) rfl (by kernel_rfl))) ?_
                    refine wq_val 58 (by kernel_rfl) (fun w1 c1 => (op_load (v := .int .i64 ((ix p0 s362.2.2).At)) rfl (by kernel_rfl) ((hr_p0.old c1).cell (j := 3) (h402 (by rw [h403, decide_eq_true h404, decide_eq_true h405] <;> rfl)).1 (h402 (by rw [h403, decide_eq_true h404, decide_eq_true h405] <;> rfl)).2 rfl))) ?_
                    refine wq_val 59 (by kernel_rfl) (fun w1 c1 => (op_fieldL (m := 1) (k := 1) rfl (by kernel_rfl) rfl)) ?_
                    refine wq_val 60 (by kernel_rfl) (fun w1 c1 => (op_load rfl (by kernel_rfl) (c1.cell 0 (u := .int .i64 _) rfl rfl))) ?_
                    refine wq_val 61 (by kernel_rfl) (fun w1 c1 => (op_lss rfl rfl)) ?_
                    refine wq_val 62 (by kernel_rfl) (fun w1 c1 => (op_pick_t (v := .bool _) rfl rfl)) ?_
                    exact leaf_q (sub_out 35 _ rfl (by kernel_rfl) ⟨(congrArg Value.bool (by rw [h403, decide_eq_true h404, decide_eq_true h405] <;> rfl)), trivial⟩)
                  · skip
                    refine wq_val 52 (by kernel_rfl) (fun w1 c1 => (op_pick_t (v := .bool false) rfl rfl)) ?_
                    refine wq_val 53 (by kernel_rfl) (fun w1 c1 => (op_move (v := .bool false) rfl)) ?_
                    refine wq_skip 54 (by kernel_rfl) ?_
                    refine wq_skip 55 (by kernel_rfl) ?_
                    refine wq_skip 56 (by kernel_rfl) ?_
                    refine wq_skip 57 (by kernel_rfl) ?_
                    refine wq_skip 58 (by kernel_rfl) ?_
                    refine wq_skip 59 (by kernel_rfl) ?_
                    refine wq_skip 60 (by kernel_rfl) ?_
                    refine wq_skip 61 (by kernel_rfl) ?_
                    refine wq_val 62 (by kernel_rfl) (fun w1 c1 => (op_pick_f (v := .bool false) rfl rfl)) ?_
                    exact leaf_q (sub_out 35 _ rfl (by kernel_rfl) ⟨(congrArg Value.bool (by rw [h403, decide_eq_true h404, decide_eq_false h405] <;> rfl)), trivial⟩)
                · skip
                  refine wq_val 42 (by kernel_rfl) (fun w1 c1 => (op_pick_t (v := .bool false) rfl rfl)) ?_
                  refine wq_val 43 (by kernel_rfl) (fun w1 c1 => (op_move (v := .bool false) rfl)) ?_
                  refine wq_skip 44 (by kernel_rfl) ?_
                  refine wq_skip 45 (by kernel_rfl) ?_
                  refine wq_skip 46 (by kernel_rfl) ?_
                  refine wq_skip 47 (by kernel_rfl) ?_
                  refine wq_skip 48 (by kernel_rfl) ?_
                  refine wq_skip 49 (by kernel_rfl) ?_
                  refine wq_skip 50 (by kernel_rfl) ?_
                  refine wq_skip 51 (by kernel_rfl) ?_
                  refine wq_val 52 (by kernel_rfl) (fun w1 c1 => (op_pick_f (v := .bool false) rfl rfl)) ?_
                  refine wq_val 53 (by kernel_rfl) (fun w1 c1 => (op_move (v := .bool false) rfl)) ?_
                  refine wq_skip 54 (by kernel_rfl) ?_
                  refine wq_skip 55 (by kernel_rfl) ?_
                  refine wq_skip 56 (by kernel_rfl) ?_
                  refine wq_skip 57 (by kernel_rfl) ?_
                  refine wq_skip 58 (by kernel_rfl) ?_
                  refine wq_skip 59 (by kernel_rfl) ?_
                  refine wq_skip 60 (by kernel_rfl) ?_
                  refine wq_skip 61 (by kernel_rfl) ?_
                  refine wq_val 62 (by kernel_rfl) (fun w1 c1 => (op_pick_f (v := .bool false) rfl rfl)) ?_
                  exact leaf_q (sub_out 35 _ rfl (by kernel_rfl) ⟨(congrArg Value.bool (by rw [h403, decide_eq_false h404] <;> rfl)), trivial⟩)
            refine xm_next ?_
            refine cm_condB (by kernel_rfl) rfl (fun h406 => ?_) (fun h406 => ?_)
            · skip
              refine cm_seq ?_
              refine cm_ck (fun h407 => ?_)
              refine cm_ck (fun h408 => ?_)
              refine cm_held (ξ := Unit) (fun u413 => [(0, .slice A_p0 n_p0 c_p0), (1, .int .i64 p1), (5, .pointer (some ⟨b1, 0, none⟩)), (6, .pointer (some ⟨b2, 0, none⟩)), (9, .pointer (some ⟨b9, 0, none⟩)), (10, .int .i64 s362.2.2)]) (fun u413 => [blkE b1 35 [.int .i64 p2.From, .int .i64 p2.To], blkE b2 41 [.int .i64 0, .int .i64 0], blkE b9 41 [.int .i64 (s362.1 + ((ix p0 s362.2.2).Mass.Lo)), .int .i64 s362.2.1]]) [blkE b1 35 [.int .i64 p2.From, .int .i64 p2.To], blkE b2 41 [.int .i64 0, .int .i64 0]] 11 (by kernel_rfl) (by rfl) (hsub [0, 1] (by kernel_rfl) (by rfl)) ?_ ?_
              · intro w415 c416
                refine wh_take 0 63 rfl (by kernel_rfl) (by kernel_rfl) (fun w2 c2 => (op_fieldL (m := 0) (k := 0) rfl (by kernel_rfl) rfl)) (hsub [0, 1] (by kernel_rfl) rfl _ c416) ?_
                refine wh_take 2 65 rfl (by kernel_rfl) (by kernel_rfl) (fun w2 c2 => (op_move (v := .slice _ _ _) rfl)) (hsub [0, 1] (by kernel_rfl) rfl _ c416) ?_
                refine wh_take 3 66 rfl (by kernel_rfl) (by kernel_rfl) (fun w2 c2 => (op_move (v := .int .i64 _) rfl)) (hsub [0, 1] (by kernel_rfl) rfl _ c416) ?_
                refine wh_take 4 67 rfl (by kernel_rfl) (by kernel_rfl) (fun w2 c2 => (op_indexA 7 rfl rfl (by kernel_rfl) ((hr_p0.old c2).addr h407.1 h407.2) hz_p0.2.2 h407.1 h407.2)) (hsub [0, 1] (by kernel_rfl) rfl _ c416) ?_
                refine wh_take 5 68 rfl (by kernel_rfl) (by kernel_rfl) (fun w2 c2 => (op_field (m := 4) rfl (by kernel_rfl))) (hsub [0, 1] (by kernel_rfl) rfl _ c416) ?_
                refine wh_take 6 69 rfl (by kernel_rfl) (by kernel_rfl) (fun w2 c2 => (op_field0 rfl (by kernel_rfl))) (hsub [0, 1] (by kernel_rfl) rfl _ c416) ?_
                refine wh_take 7 70 rfl (by kernel_rfl) (by kernel_rfl) (fun w2 c2 => (op_load (v := .int .i64 ((ix p0 s362.2.2).Mass.Lo)) rfl (by kernel_rfl) ((hr_p0.old c2).cell (j := 4) h407.1 h407.2 rfl))) (hsub [0, 1] (by kernel_rfl) rfl _ c416) ?_
                refine wh_ready [1] (by kernel_rfl) rfl ⟨?_, trivial⟩
                refine ws_run 64 rfl (by kernel_rfl) (op_load rfl (by kernel_rfl) (c416.cell 2 (u := .int .i64 _) rfl rfl)) (hsub [0, 1] (by kernel_rfl) rfl _ c416) ?_
                refine wh_take 8 71 rfl (by kernel_rfl) (by kernel_rfl) (fun w2 c2 => (op_add rfl rfl h408)) (hsub [0, 1] (by kernel_rfl) rfl _ c416) ?_
                refine wh_take 9 72 rfl (by kernel_rfl) (by kernel_rfl) (fun w2 c2 => (op_fieldL (m := 0) (k := 0) rfl (by kernel_rfl) rfl)) (hsub [0, 1] (by kernel_rfl) rfl _ c416) ?_
                refine wh_ready [10] (by kernel_rfl) rfl ⟨?_, trivial⟩
                refine ws_store1 2 (v := .int .i64 _) rfl (by kernel_rfl) rfl rfl (by kernel_rfl) rfl rfl (by kernel_rfl) (H' := [_, _, blkE _ _ [_, _]]) rfl c416 ?_
                intro w417 c418
                refine ⟨(hsub [0, 1] (by kernel_rfl) rfl _ c418), ?_⟩
                exact wh_done () (by kernel_rfl) (sub_cons (by kernel_rfl) rfl (sub_cons (by kernel_rfl) rfl (sub_cons (by kernel_rfl) rfl (sub_cons (by kernel_rfl) rfl (sub_cons (by kernel_rfl) rfl (sub_cons (by kernel_rfl) rfl sub_nil)))))) (hsub [0, 1, 2] (by kernel_rfl) rfl _ c418)
              intro u413
              refine xm_next ?_
              refine cm_ck (fun h419 => ?_)
              refine cm_ck (fun h420 => ?_)
              refine cm_of_then ?_
              refine cm_held (ξ := Unit) (fun u425 => [(0, .slice A_p0 n_p0 c_p0), (1, .int .i64 p1), (5, .pointer (some ⟨b1, 0, none⟩)), (6, .pointer (some ⟨b2, 0, none⟩)), (9, .pointer (some ⟨b9, 0, none⟩)), (10, .int .i64 s362.2.2)]) (fun u425 => [blkE b1 35 [.int .i64 p2.From, .int .i64 p2.To], blkE b2 41 [.int .i64 0, .int .i64 0], blkE b9 41 [.int .i64 (s362.1 + ((ix p0 s362.2.2).Mass.Lo)), .int .i64 (s362.2.1 + ((ix p0 s362.2.2).Mass.Hi))]]) [blkE b1 35 [.int .i64 p2.From, .int .i64 p2.To], blkE b2 41 [.int .i64 0, .int .i64 0]] 11 (by kernel_rfl) (by rfl) (hsub [0, 1] (by kernel_rfl) (by rfl)) ?_ ?_
              · intro w427 c428
                refine wh_take 0 73 rfl (by kernel_rfl) (by kernel_rfl) (fun w2 c2 => (op_fieldL (m := 1) (k := 1) rfl (by kernel_rfl) rfl)) (hsub [0, 1] (by kernel_rfl) rfl _ c428) ?_
                refine wh_take 2 75 rfl (by kernel_rfl) (by kernel_rfl) (fun w2 c2 => (op_move (v := .slice _ _ _) rfl)) (hsub [0, 1] (by kernel_rfl) rfl _ c428) ?_
                refine wh_take 3 76 rfl (by kernel_rfl) (by kernel_rfl) (fun w2 c2 => (op_move (v := .int .i64 _) rfl)) (hsub [0, 1] (by kernel_rfl) rfl _ c428) ?_
                refine wh_take 4 77 rfl (by kernel_rfl) (by kernel_rfl) (fun w2 c2 => (op_indexA 7 rfl rfl (by kernel_rfl) ((hr_p0.old c2).addr h419.1 h419.2) hz_p0.2.2 h419.1 h419.2)) (hsub [0, 1] (by kernel_rfl) rfl _ c428) ?_
                refine wh_take 5 78 rfl (by kernel_rfl) (by kernel_rfl) (fun w2 c2 => (op_field (m := 4) rfl (by kernel_rfl))) (hsub [0, 1] (by kernel_rfl) rfl _ c428) ?_
                refine wh_take 6 79 rfl (by kernel_rfl) (by kernel_rfl) (fun w2 c2 => (op_fieldL (m := 1) (k := ao A_p0 + Int.toNat s362.2.2 * 7 + 5) rfl (by kernel_rfl) rfl)) (hsub [0, 1] (by kernel_rfl) rfl _ c428) ?_
                refine wh_take 7 80 rfl (by kernel_rfl) (by kernel_rfl) (fun w2 c2 => (op_load (v := .int .i64 ((ix p0 s362.2.2).Mass.Hi)) rfl (by kernel_rfl) ((hr_p0.old c2).cell (j := 5) h419.1 h419.2 rfl))) (hsub [0, 1] (by kernel_rfl) rfl _ c428) ?_
                refine wh_ready [1] (by kernel_rfl) rfl ⟨?_, trivial⟩
                refine ws_run 74 rfl (by kernel_rfl) (op_load rfl (by kernel_rfl) (c428.cell 2 (u := .int .i64 _) rfl rfl)) (hsub [0, 1] (by kernel_rfl) rfl _ c428) ?_
                refine wh_take 8 81 rfl (by kernel_rfl) (by kernel_rfl) (fun w2 c2 => (op_add rfl rfl h420)) (hsub [0, 1] (by kernel_rfl) rfl _ c428) ?_
                refine wh_take 9 82 rfl (by kernel_rfl) (by kernel_rfl) (fun w2 c2 => (op_fieldL (m := 1) (k := 1) rfl (by kernel_rfl) rfl)) (hsub [0, 1] (by kernel_rfl) rfl _ c428) ?_
                refine wh_ready [10] (by kernel_rfl) rfl ⟨?_, trivial⟩
                refine ws_store1 2 (v := .int .i64 _) rfl (by kernel_rfl) rfl rfl (by kernel_rfl) rfl rfl (by kernel_rfl) (H' := [_, _, blkE _ _ [_, _]]) rfl c428 ?_
                intro w429 c430
                refine ⟨(hsub [0, 1] (by kernel_rfl) rfl _ c430), ?_⟩
                exact wh_done () (by kernel_rfl) (sub_cons (by kernel_rfl) rfl (sub_cons (by kernel_rfl) rfl (sub_cons (by kernel_rfl) rfl (sub_cons (by kernel_rfl) rfl (sub_cons (by kernel_rfl) rfl (sub_cons (by kernel_rfl) rfl sub_nil)))))) (hsub [0, 1, 2] (by kernel_rfl) rfl _ c430)
              intro u425
              refine xm_of_then ?_
              refine xm_inN ?_
              exact xm_lnext () (sub_cons (by kernel_rfl) rfl (sub_cons (by kernel_rfl) rfl (sub_cons (by kernel_rfl) rfl (sub_cons (by kernel_rfl) rfl (sub_cons (by kernel_rfl) rfl (sub_cons (by kernel_rfl) rfl sub_nil)))))) (hsub [0, 1, 2] (by kernel_rfl) rfl)
            · skip
              refine cm_skip ?_
              refine xm_inN ?_
              exact xm_lnext () (sub_cons (by kernel_rfl) rfl (sub_cons (by kernel_rfl) rfl (sub_cons (by kernel_rfl) rfl (sub_cons (by kernel_rfl) rfl (sub_cons (by kernel_rfl) rfl (sub_cons (by kernel_rfl) rfl sub_nil)))))) (hsub [0, 1, 2] (by kernel_rfl) rfl)
          intro s397 u398
          refine cm_region ?_
          refine lm_val 26 (by kernel_rfl) (fun w1 c1 => (op_move (v := .int .i64 _) rfl)) ?_
          refine lm_ck (fun h431 => ?_)
          refine lm_val 27 (by kernel_rfl) (fun w1 c1 => (op_add rfl rfl h431)) ?_
          refine lm_val 10 (by kernel_rfl) (fun w1 c1 => (op_assign (v := .int .i64 _) rfl)) ?_
          refine lm_nil ?_
          exact xm_lnext () (sub_cons (by kernel_rfl) rfl (sub_cons (by kernel_rfl) rfl (sub_cons (by kernel_rfl) rfl (sub_cons (by kernel_rfl) rfl (sub_cons (by kernel_rfl) rfl (sub_cons (by kernel_rfl) rfl sub_nil)))))) (hsub [0, 1, 2] (by kernel_rfl) rfl)
        · skip
          refine cm_exit ?_
          refine xm_thenE ?_
          refine xm_lexit ?_
          refine xm_here ?_
          exact xm_lnext () (sub_cons (by kernel_rfl) rfl (sub_cons (by kernel_rfl) rfl sub_nil)) (hsub [1, 2] (by kernel_rfl) rfl)
      intro s220 u221
      refine cm_seq ?_
      refine cm_region ?_
      refine lm_val 83 (by kernel_rfl) (fun w1 c1 => (op_loadR [.int .i64 _, .int .i64 _] rfl (by kernel_rfl) (c1.cells 1 rfl rfl))) ?_
      refine lm_storeA 0 [.int .i64 _, .int .i64 _] [_, _] (H' := [blkE _ _ [_, _], _]) (by kernel_rfl) rfl rfl (by kernel_rfl) rfl rfl (by kernel_rfl) rfl rfl ?_
      refine lm_val 7 (by kernel_rfl) (fun w1 c1 => (op_assign (v := .int .i64 _) rfl)) ?_
      refine lm_nil ?_
      refine xm_next ?_
      refine cm_ret ?_
      exact xm_retCT rfl (by kernel_rfl) (show _ = Value.pointer (some ⟨_, 0, none⟩) from rfl) (by kernel_rfl) (fun w1 c1 => c1.cells 0 (ds := [.int .i64 _, .int .i64 _]) rfl rfl) (by kernel_rfl) (show _ = Value.int .i64 _ from rfl) fun w1 c1 => ⟨(), rfl, hsub [] (by kernel_rfl) rfl w1 c1⟩
end Go.Proofs.Ytkepegnnkmmefaa
