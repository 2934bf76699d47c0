/- Models of functions, and that the code follows them. Written by deco.py. -/
import Derived.Test.YtljogldcejcikaaGreatDSort1
import Derived.Test.YtljogldcejcikaaGreatDIf
import Derived.Test.YtljogldcejcikaaGreatShelf
namespace Go.Proofs.YtljogldcejcikaaGreat
open Go.RowKit

structure ApiHousehold where
 ID : ByteArray
 Persons : Int
deriving DecidableEq, Inhabited
def encApiHousehold (x : ApiHousehold) : List Value := [.string x.ID, .int .i64 x.Persons]
def valApiHousehold (x : ApiHousehold) : Value := .agg #[.string x.ID, .int .i64 x.Persons]
theorem encApiHousehold_len (x : ApiHousehold) : (encApiHousehold x).length = 2 := rfl
theorem encApiHousehold_one (x : ApiHousehold) : (encApiHousehold x).all Value.oneCell' = true := rfl
structure ApiContainer where
 ID : ByteArray
 Kind : Int
 Litres : Int
 Grams : Int
 Node : Int
deriving DecidableEq, Inhabited
def encApiContainer (x : ApiContainer) : List Value := [.string x.ID, .int .i64 x.Kind, .int .i64 x.Litres, .int .i64 x.Grams, .int .i64 x.Node]
def valApiContainer (x : ApiContainer) : Value := .agg #[.string x.ID, .int .i64 x.Kind, .int .i64 x.Litres, .int .i64 x.Grams, .int .i64 x.Node]
theorem encApiContainer_len (x : ApiContainer) : (encApiContainer x).length = 5 := rfl
theorem encApiContainer_one (x : ApiContainer) : (encApiContainer x).all Value.oneCell' = true := rfl
structure ApiWindow where
 From : Int
 To : Int
deriving DecidableEq, Inhabited
def encApiWindow (x : ApiWindow) : List Value := [.int .i64 x.From, .int .i64 x.To]
def valApiWindow (x : ApiWindow) : Value := .agg #[.int .i64 x.From, .int .i64 x.To]
theorem encApiWindow_len (x : ApiWindow) : (encApiWindow x).length = 2 := rfl
theorem encApiWindow_one (x : ApiWindow) : (encApiWindow x).all Value.oneCell' = true := rfl
structure ApiAssign where
 Container : Int
 Household : Int
 When : ApiWindow
deriving DecidableEq, Inhabited
def encApiAssign (x : ApiAssign) : List Value := [.int .i64 x.Container, .int .i64 x.Household, .int .i64 x.When.From, .int .i64 x.When.To]
def valApiAssign (x : ApiAssign) : Value := .agg #[.int .i64 x.Container, .int .i64 x.Household, .int .i64 x.When.From, .int .i64 x.When.To]
theorem encApiAssign_len (x : ApiAssign) : (encApiAssign x).length = 4 := rfl
theorem encApiAssign_one (x : ApiAssign) : (encApiAssign x).all Value.oneCell' = true := rfl
structure ApiSpan where
 Lo : Int
 Hi : Int
deriving DecidableEq, Inhabited
def encApiSpan (x : ApiSpan) : List Value := [.int .i64 x.Lo, .int .i64 x.Hi]
def valApiSpan (x : ApiSpan) : Value := .agg #[.int .i64 x.Lo, .int .i64 x.Hi]
theorem encApiSpan_len (x : ApiSpan) : (encApiSpan x).length = 2 := rfl
theorem encApiSpan_one (x : ApiSpan) : (encApiSpan x).all Value.oneCell' = true := rfl
structure ApiEmptying where
 ID : Int
 Container : Int
 Vehicle : Int
 At : Int
 Mass : ApiSpan
 Void : Bool
deriving DecidableEq, Inhabited
def encApiEmptying (x : ApiEmptying) : List Value := [.int .i64 x.ID, .int .i64 x.Container, .int .i64 x.Vehicle, .int .i64 x.At, .int .i64 x.Mass.Lo, .int .i64 x.Mass.Hi, .bool x.Void]
def valApiEmptying (x : ApiEmptying) : Value := .agg #[.int .i64 x.ID, .int .i64 x.Container, .int .i64 x.Vehicle, .int .i64 x.At, .int .i64 x.Mass.Lo, .int .i64 x.Mass.Hi, .bool x.Void]
theorem encApiEmptying_len (x : ApiEmptying) : (encApiEmptying x).length = 7 := rfl
theorem encApiEmptying_one (x : ApiEmptying) : (encApiEmptying x).all Value.oneCell' = true := rfl
structure ApiTariff where
 From : Int
 Base : Int
 Empty : Int
 Kilo : Int
 Free : Int
deriving DecidableEq, Inhabited
def encApiTariff (x : ApiTariff) : List Value := [.int .i64 x.From, .int .i64 x.Base, .int .i64 x.Empty, .int .i64 x.Kilo, .int .i64 x.Free]
def valApiTariff (x : ApiTariff) : Value := .agg #[.int .i64 x.From, .int .i64 x.Base, .int .i64 x.Empty, .int .i64 x.Kilo, .int .i64 x.Free]
theorem encApiTariff_len (x : ApiTariff) : (encApiTariff x).length = 5 := rfl
theorem encApiTariff_one (x : ApiTariff) : (encApiTariff x).all Value.oneCell' = true := rfl
structure ApiAccount where
 Households : (List ApiHousehold)
 Containers : (List ApiContainer)
 Assigns : (List ApiAssign)
 Emptyings : (List ApiEmptying)
 Tariffs : (List ApiTariff)
 Gap : Int
deriving Inhabited
structure ApiItem where
 Kind : Int
 Ref : Int
 Count : Int
 Price : Int
 Amount : Int
deriving DecidableEq, Inhabited
def encApiItem (x : ApiItem) : List Value := [.int .i64 x.Kind, .int .i64 x.Ref, .int .i64 x.Count, .int .i64 x.Price, .int .i64 x.Amount]
def valApiItem (x : ApiItem) : Value := .agg #[.int .i64 x.Kind, .int .i64 x.Ref, .int .i64 x.Count, .int .i64 x.Price, .int .i64 x.Amount]
theorem encApiItem_len (x : ApiItem) : (encApiItem x).length = 5 := rfl
theorem encApiItem_one (x : ApiItem) : (encApiItem x).all Value.oneCell' = true := rfl
structure ApiBill where
 ID : Int
 Household : Int
 When : ApiWindow
 Items : (List ApiItem)
 Total : Int
deriving Inhabited
structure ApiComplaint where
 Bill : Int
 Item : Int
 At : Int
 Kind : Int
deriving DecidableEq, Inhabited
def encApiComplaint (x : ApiComplaint) : List Value := [.int .i64 x.Bill, .int .i64 x.Item, .int .i64 x.At, .int .i64 x.Kind]
def valApiComplaint (x : ApiComplaint) : Value := .agg #[.int .i64 x.Bill, .int .i64 x.Item, .int .i64 x.At, .int .i64 x.Kind]
theorem encApiComplaint_len (x : ApiComplaint) : (encApiComplaint x).length = 4 := rfl
theorem encApiComplaint_one (x : ApiComplaint) : (encApiComplaint x).all Value.oneCell' = true := rfl
structure Recyclinglaw57Case where
 Account : ApiAccount
 Bill : ApiBill
 Complaint : ApiComplaint
 Days : Int
deriving Inhabited
/-- recyclingref18.fault -/
def m_recyclingref18_fault (_N : Nat) (p0 : ApiEmptying) (p1 : Int) (p2 : Int) : Option (Int) :=
 (if ((decide (p0.ID < 1)) || (decide (1000000 < p0.ID))) = true then
  some ((1 : Int))
 else
  (if ((decide (p0.Container < 0)) || (decide (p1 ≤ p0.Container))) = true then
   some ((7 : Int))
  else
   (if ((decide (p0.Vehicle < 0)) || (decide (p2 ≤ p0.Vehicle))) = true then
    some ((7 : Int))
   else
    (if ((decide (p0.At < 0)) || (decide (3155759999 < p0.At))) = true then
     some ((1 : Int))
    else
     (if (((decide (p0.Mass.Lo < 0)) || (decide (p0.Mass.Hi < p0.Mass.Lo))) || (decide (1073741824 < p0.Mass.Hi))) = true then
      some ((1 : Int))
     else
      some ((0 : Int)))))))
set_option maxHeartbeats 2000000 in
set_option maxRecDepth 20000 in
theorem m_recyclingref18_fault_ok (N : Nat) (w0 : World) (p0 : ApiEmptying) (p1 : Int) (p2 : Int)   (r : Int) (hr : m_recyclingref18_fault N p0 p1 p2 = some r) :
  Calls Tryz.prog 58 [.agg #[.int .i64 p0.ID, .int .i64 p0.Container, .int .i64 p0.Vehicle, .int .i64 p0.At, .int .i64 p0.Mass.Lo, .int .i64 p0.Mass.Hi, .bool p0.Void], .int .i64 p1, .int .i64 p2].toArray w0 fun x w1 => ∃ u, x = .returned ((fun (r : Int) (_u : Unit) => .int .i64 r) r u) ∧ Hs w0 ((fun (_r : Int) (_u : Unit) => []) r u) w1 := by
 refine calls_cm (n := 60) (R := fun r x w1 => ∃ u, x = .returned ((fun (r : Int) (_u : Unit) => .int .i64 r) r u) ∧ Hs w0 ((fun (_r : Int) (_u : Unit) => []) r u) w1) Tryz.func58 rfl rfl (Nat.le_of_ble_eq_true rfl) ?_ r hr
 unfold m_recyclingref18_fault
 refine cq ?_
 refine cr ?_
 refine lm_box 3 [.int .i64 _, .int .i64 _, .int .i64 _, .int .i64 _, .int .i64 _, .int .i64 _, .bool _] (by kernel_rfl) rfl ?_
 intro b5
 refine lv 6 (by kernel_rfl) (fun w1 c1 => (oa (v := .int .i64 _) rfl)) ?_
 refine ln ?_
 refine xn ?_
 refine cq ?_
 refine cq ?_
 refine cm_cutE [(14, .bool ((decide (p0.ID < 1)) || (decide (1000000 < p0.ID))))] ?_ ?_
 ·skip
  refine wv 7 (by kernel_rfl) (fun w1 c1 => (oF (m := 0) (k := 0) rfl (by kernel_rfl) rfl)) ?_
  refine wv 8 (by kernel_rfl) (fun w1 c1 => (ol rfl (by kernel_rfl) (c1.cell 0 (u := .int .i64 _) rfl rfl))) ?_
  refine wq_dec 9 (by kernel_rfl) (fun w1 c1 => (op_lss rfl rfl)) (fun h6 => ?_) (fun h6 => ?_)
  ·skip
   refine wv 10 (by kernel_rfl) (fun w1 c1 => (om (v := .bool true) rfl)) ?_
   refine wk 11 (by kernel_rfl) ?_
   refine wk 12 (by kernel_rfl) ?_
   refine wk 13 (by kernel_rfl) ?_
   refine wv 14 (by kernel_rfl) (fun w1 c1 => (opt (v := .bool true) rfl rfl)) ?_
   exact leaf_q (sub_out 8 _ rfl (by kernel_rfl) ⟨(congrArg Value.bool (by rw [decide_eq_true h6] <;> rfl)), trivial⟩)
  ·skip
   refine wv 10 (by kernel_rfl) (fun w1 c1 => (om (v := .bool false) rfl)) ?_
   refine wv 11 (by kernel_rfl) (fun w1 c1 => (oF (m := 0) (k := 0) rfl (by kernel_rfl) rfl)) ?_
   refine wv 12 (by kernel_rfl) (fun w1 c1 => (ol rfl (by kernel_rfl) (c1.cell 0 (u := .int .i64 _) rfl rfl))) ?_
   refine wv 13 (by kernel_rfl) (fun w1 c1 => (op_gtr rfl rfl)) ?_
   refine wv 14 (by kernel_rfl) (fun w1 c1 => (opf (v := .bool _) rfl rfl)) ?_
   exact leaf_q (sub_out 8 _ rfl (by kernel_rfl) ⟨(congrArg Value.bool (by rw [decide_eq_false h6] <;> rfl)), trivial⟩)
 refine xn ?_
 refine cm_condB (by kernel_rfl) rfl (fun h7 => ?_) (fun h7 => ?_)
 ·skip
  refine cq ?_
  refine cr ?_
  refine lv 6 (by kernel_rfl) (fun w1 c1 => (oa (v := .int .i64 _) rfl)) ?_
  refine ln ?_
  refine xn ?_
  refine cm_ret ?_
  refine xm_thenR ?_
  exact xm_retT rfl (by kernel_rfl) (show _ = Value.int .i64 _ from rfl) fun w1 c1 => ⟨(), rfl, hsub [] (by kernel_rfl) rfl w1 c1⟩
 ·skip
  refine cm_skip ?_
  refine xn ?_
  refine cq ?_
  refine cq ?_
  refine cm_cutE [(23, .bool ((decide (p0.Container < 0)) || (decide (p1 ≤ p0.Container))))] ?_ ?_
  ·skip
   refine wv 15 (by kernel_rfl) (fun w1 c1 => (oF (m := 1) (k := 1) rfl (by kernel_rfl) rfl)) ?_
   refine wv 16 (by kernel_rfl) (fun w1 c1 => (ol rfl (by kernel_rfl) (c1.cell 0 (u := .int .i64 _) rfl rfl))) ?_
   refine wq_dec 17 (by kernel_rfl) (fun w1 c1 => (op_lss rfl rfl)) (fun h8 => ?_) (fun h8 => ?_)
   ·skip
    refine wv 18 (by kernel_rfl) (fun w1 c1 => (om (v := .bool true) rfl)) ?_
    refine wk 19 (by kernel_rfl) ?_
    refine wk 20 (by kernel_rfl) ?_
    refine wk 21 (by kernel_rfl) ?_
    refine wk 22 (by kernel_rfl) ?_
    refine wv 23 (by kernel_rfl) (fun w1 c1 => (opt (v := .bool true) rfl rfl)) ?_
    exact leaf_q (sub_out 9 _ rfl (by kernel_rfl) ⟨(congrArg Value.bool (by rw [decide_eq_true h8] <;> rfl)), trivial⟩)
   ·skip
    refine wv 18 (by kernel_rfl) (fun w1 c1 => (om (v := .bool false) rfl)) ?_
    refine wv 19 (by kernel_rfl) (fun w1 c1 => (oF (m := 1) (k := 1) rfl (by kernel_rfl) rfl)) ?_
    refine wv 20 (by kernel_rfl) (fun w1 c1 => (ol rfl (by kernel_rfl) (c1.cell 0 (u := .int .i64 _) rfl rfl))) ?_
    refine wv 21 (by kernel_rfl) (fun w1 c1 => (om (v := .int .i64 _) rfl)) ?_
    refine wv 22 (by kernel_rfl) (fun w1 c1 => (op_geq rfl rfl)) ?_
    refine wv 23 (by kernel_rfl) (fun w1 c1 => (opf (v := .bool _) rfl rfl)) ?_
    exact leaf_q (sub_out 9 _ rfl (by kernel_rfl) ⟨(congrArg Value.bool (by rw [decide_eq_false h8] <;> rfl)), trivial⟩)
  refine xn ?_
  refine cm_condB (by kernel_rfl) rfl (fun h9 => ?_) (fun h9 => ?_)
  ·skip
   refine cq ?_
   refine cr ?_
   refine lv 6 (by kernel_rfl) (fun w1 c1 => (oa (v := .int .i64 _) rfl)) ?_
   refine ln ?_
   refine xn ?_
   refine cm_ret ?_
   refine xm_thenR ?_
   exact xm_retT rfl (by kernel_rfl) (show _ = Value.int .i64 _ from rfl) fun w1 c1 => ⟨(), rfl, hsub [] (by kernel_rfl) rfl w1 c1⟩
  ·skip
   refine cm_skip ?_
   refine xn ?_
   refine cq ?_
   refine cq ?_
   refine cm_cutE [(32, .bool ((decide (p0.Vehicle < 0)) || (decide (p2 ≤ p0.Vehicle))))] ?_ ?_
   ·skip
    refine wv 24 (by kernel_rfl) (fun w1 c1 => (oF (m := 2) (k := 2) rfl (by kernel_rfl) rfl)) ?_
    refine wv 25 (by kernel_rfl) (fun w1 c1 => (ol rfl (by kernel_rfl) (c1.cell 0 (u := .int .i64 _) rfl rfl))) ?_
    refine wq_dec 26 (by kernel_rfl) (fun w1 c1 => (op_lss rfl rfl)) (fun h10 => ?_) (fun h10 => ?_)
    ·skip
     refine wv 27 (by kernel_rfl) (fun w1 c1 => (om (v := .bool true) rfl)) ?_
     refine wk 28 (by kernel_rfl) ?_
     refine wk 29 (by kernel_rfl) ?_
     refine wk 30 (by kernel_rfl) ?_
     refine wk 31 (by kernel_rfl) ?_
     refine wv 32 (by kernel_rfl) (fun w1 c1 => (opt (v := .bool true) rfl rfl)) ?_
     exact leaf_q (sub_out 9 _ rfl (by kernel_rfl) ⟨(congrArg Value.bool (by rw [decide_eq_true h10] <;> rfl)), trivial⟩)
    ·skip
     refine wv 27 (by kernel_rfl) (fun w1 c1 => (om (v := .bool false) rfl)) ?_
     refine wv 28 (by kernel_rfl) (fun w1 c1 => (oF (m := 2) (k := 2) rfl (by kernel_rfl) rfl)) ?_
     refine wv 29 (by kernel_rfl) (fun w1 c1 => (ol rfl (by kernel_rfl) (c1.cell 0 (u := .int .i64 _) rfl rfl))) ?_
     refine wv 30 (by kernel_rfl) (fun w1 c1 => (om (v := .int .i64 _) rfl)) ?_
     refine wv 31 (by kernel_rfl) (fun w1 c1 => (op_geq rfl rfl)) ?_
     refine wv 32 (by kernel_rfl) (fun w1 c1 => (opf (v := .bool _) rfl rfl)) ?_
     exact leaf_q (sub_out 9 _ rfl (by kernel_rfl) ⟨(congrArg Value.bool (by rw [decide_eq_false h10] <;> rfl)), trivial⟩)
   refine xn ?_
   refine cm_condB (by kernel_rfl) rfl (fun h11 => ?_) (fun h11 => ?_)
   ·skip
    refine cq ?_
    refine cr ?_
    refine lv 6 (by kernel_rfl) (fun w1 c1 => (oa (v := .int .i64 _) rfl)) ?_
    refine ln ?_
    refine xn ?_
    refine cm_ret ?_
    refine xm_thenR ?_
    exact xm_retT rfl (by kernel_rfl) (show _ = Value.int .i64 _ from rfl) fun w1 c1 => ⟨(), rfl, hsub [] (by kernel_rfl) rfl w1 c1⟩
   ·skip
    refine cm_skip ?_
    refine xn ?_
    refine cq ?_
    refine cq ?_
    refine cm_cutE [(40, .bool ((decide (p0.At < 0)) || (decide (3155759999 < p0.At))))] ?_ ?_
    ·skip
     refine wv 33 (by kernel_rfl) (fun w1 c1 => (oF (m := 3) (k := 3) rfl (by kernel_rfl) rfl)) ?_
     refine wv 34 (by kernel_rfl) (fun w1 c1 => (ol rfl (by kernel_rfl) (c1.cell 0 (u := .int .i64 _) rfl rfl))) ?_
     refine wq_dec 35 (by kernel_rfl) (fun w1 c1 => (op_lss rfl rfl)) (fun h12 => ?_) (fun h12 => ?_)
     ·skip
      refine wv 36 (by kernel_rfl) (fun w1 c1 => (om (v := .bool true) rfl)) ?_
      refine wk 37 (by kernel_rfl) ?_
      refine wk 38 (by kernel_rfl) ?_
      refine wk 39 (by kernel_rfl) ?_
      refine wv 40 (by kernel_rfl) (fun w1 c1 => (opt (v := .bool true) rfl rfl)) ?_
      exact leaf_q (sub_out 8 _ rfl (by kernel_rfl) ⟨(congrArg Value.bool (by rw [decide_eq_true h12] <;> rfl)), trivial⟩)
     ·skip
      refine wv 36 (by kernel_rfl) (fun w1 c1 => (om (v := .bool false) rfl)) ?_
      refine wv 37 (by kernel_rfl) (fun w1 c1 => (oF (m := 3) (k := 3) rfl (by kernel_rfl) rfl)) ?_
      refine wv 38 (by kernel_rfl) (fun w1 c1 => (ol rfl (by kernel_rfl) (c1.cell 0 (u := .int .i64 _) rfl rfl))) ?_
      refine wv 39 (by kernel_rfl) (fun w1 c1 => (op_gtr rfl rfl)) ?_
      refine wv 40 (by kernel_rfl) (fun w1 c1 => (opf (v := .bool _) rfl rfl)) ?_
      exact leaf_q (sub_out 8 _ rfl (by kernel_rfl) ⟨(congrArg Value.bool (by rw [decide_eq_false h12] <;> rfl)), trivial⟩)
    refine xn ?_
    refine cm_condB (by kernel_rfl) rfl (fun h13 => ?_) (fun h13 => ?_)
    ·skip
     refine cq ?_
     refine cr ?_
     refine lv 6 (by kernel_rfl) (fun w1 c1 => (oa (v := .int .i64 _) rfl)) ?_
     refine ln ?_
     refine xn ?_
     refine cm_ret ?_
     refine xm_thenR ?_
     exact xm_retT rfl (by kernel_rfl) (show _ = Value.int .i64 _ from rfl) fun w1 c1 => ⟨(), rfl, hsub [] (by kernel_rfl) rfl w1 c1⟩
    ·skip
     refine cm_skip ?_
     refine xn ?_
     refine cq ?_
     refine cq ?_
     refine cm_cutE [(59, .bool (((decide (p0.Mass.Lo < 0)) || (decide (p0.Mass.Hi < p0.Mass.Lo))) || (decide (1073741824 < p0.Mass.Hi))))] ?_ ?_
     ·skip
      refine wv 41 (by kernel_rfl) (fun w1 c1 => (oF (m := 4) (k := 4) rfl (by kernel_rfl) rfl)) ?_
      refine wv 42 (by kernel_rfl) (fun w1 c1 => (oF (m := 0) (k := 4) rfl (by kernel_rfl) rfl)) ?_
      refine wv 43 (by kernel_rfl) (fun w1 c1 => (ol rfl (by kernel_rfl) (c1.cell 0 (u := .int .i64 _) rfl rfl))) ?_
      refine wq_dec 44 (by kernel_rfl) (fun w1 c1 => (op_lss rfl rfl)) (fun h14 => ?_) (fun h14 => ?_)
      ·skip
       refine wv 45 (by kernel_rfl) (fun w1 c1 => (om (v := .bool true) rfl)) ?_
       refine wk 46 (by kernel_rfl) ?_
       refine wk 47 (by kernel_rfl) ?_
       refine wk 48 (by kernel_rfl) ?_
       refine wk 49 (by kernel_rfl) ?_
       refine wk 50 (by kernel_rfl) ?_
       refine wk 51 (by kernel_rfl) ?_
       refine wk 52 (by kernel_rfl) ?_
       refine wv 53 (by kernel_rfl) (fun w1 c1 => (opt (v := .bool true) rfl rfl)) ?_
       refine wv 54 (by kernel_rfl) (fun w1 c1 => (om (v := .bool true) rfl)) ?_
       refine wk 55 (by kernel_rfl) ?_
       refine wk 56 (by kernel_rfl) ?_
       refine wk 57 (by kernel_rfl) ?_
       refine wk 58 (by kernel_rfl) ?_
       refine wv 59 (by kernel_rfl) (fun w1 c1 => (opt (v := .bool true) rfl rfl)) ?_
       exact leaf_q (sub_out 19 _ rfl (by kernel_rfl) ⟨(congrArg Value.bool (by rw [decide_eq_true h14] <;> rfl)), trivial⟩)
      ·skip
       refine wv 45 (by kernel_rfl) (fun w1 c1 => (om (v := .bool false) rfl)) ?_
       refine wv 46 (by kernel_rfl) (fun w1 c1 => (oF (m := 4) (k := 4) rfl (by kernel_rfl) rfl)) ?_
       refine wv 47 (by kernel_rfl) (fun w1 c1 => (oF (m := 0) (k := 4) rfl (by kernel_rfl) rfl)) ?_
       refine wv 48 (by kernel_rfl) (fun w1 c1 => (ol rfl (by kernel_rfl) (c1.cell 0 (u := .int .i64 _) rfl rfl))) ?_
       refine wv 49 (by kernel_rfl) (fun w1 c1 => (oF (m := 4) (k := 4) rfl (by kernel_rfl) rfl)) ?_
       refine wv 50 (by kernel_rfl) (fun w1 c1 => (oF (m := 1) (k := 5) rfl (by kernel_rfl) rfl)) ?_
       refine wv 51 (by kernel_rfl) (fun w1 c1 => (ol rfl (by kernel_rfl) (c1.cell 0 (u := .int .i64 _) rfl rfl))) ?_
       refine wq_dec 52 (by kernel_rfl) (fun w1 c1 => (op_gtr rfl rfl)) (fun h15 => ?_) (fun h15 => ?_)
       ·skip
        refine wv 53 (by kernel_rfl) (fun w1 c1 => (opf (v := .bool true) rfl rfl)) ?_
        refine wv 54 (by kernel_rfl) (fun w1 c1 => (om (v := .bool true) rfl)) ?_
        refine wk 55 (by kernel_rfl) ?_
        refine wk 56 (by kernel_rfl) ?_
        refine wk 57 (by kernel_rfl) ?_
        refine wk 58 (by kernel_rfl) ?_
        refine wv 59 (by kernel_rfl) (fun w1 c1 => (opt (v := .bool true) rfl rfl)) ?_
        exact leaf_q (sub_out 19 _ rfl (by kernel_rfl) ⟨(congrArg Value.bool (by rw [decide_eq_false h14, decide_eq_true h15] <;> rfl)), trivial⟩)
       ·skip
        refine wv 53 (by kernel_rfl) (fun w1 c1 => (opf (v := .bool false) rfl rfl)) ?_
        refine wv 54 (by kernel_rfl) (fun w1 c1 => (om (v := .bool false) rfl)) ?_
        refine wv 55 (by kernel_rfl) (fun w1 c1 => (oF (m := 4) (k := 4) rfl (by kernel_rfl) rfl)) ?_
        refine wv 56 (by kernel_rfl) (fun w1 c1 => (oF (m := 1) (k := 5) rfl (by kernel_rfl) rfl)) ?_
        refine wv 57 (by kernel_rfl) (fun w1 c1 => (ol rfl (by kernel_rfl) (c1.cell 0 (u := .int .i64 _) rfl rfl))) ?_
        refine wv 58 (by kernel_rfl) (fun w1 c1 => (op_gtr rfl rfl)) ?_
        refine wv 59 (by kernel_rfl) (fun w1 c1 => (opf (v := .bool _) rfl rfl)) ?_
        exact leaf_q (sub_out 19 _ rfl (by kernel_rfl) ⟨(congrArg Value.bool (by rw [decide_eq_false h14, decide_eq_false h15] <;> rfl)), trivial⟩)
     refine xn ?_
     refine cm_condB (by kernel_rfl) rfl (fun h16 => ?_) (fun h16 => ?_)
     ·skip
      refine cq ?_
      refine cr ?_
      refine lv 6 (by kernel_rfl) (fun w1 c1 => (oa (v := .int .i64 _) rfl)) ?_
      refine ln ?_
      refine xn ?_
      refine cm_ret ?_
      refine xm_thenR ?_
      exact xm_retT rfl (by kernel_rfl) (show _ = Value.int .i64 _ from rfl) fun w1 c1 => ⟨(), rfl, hsub [] (by kernel_rfl) rfl w1 c1⟩
     ·skip
      refine cm_skip ?_
      refine xn ?_
      refine cq ?_
      refine cr ?_
      refine lv 6 (by kernel_rfl) (fun w1 c1 => (oa (v := .int .i64 _) rfl)) ?_
      refine ln ?_
      refine xn ?_
      refine cm_ret ?_
      exact xm_retT rfl (by kernel_rfl) (show _ = Value.int .i64 _ from rfl) fun w1 c1 => ⟨(), rfl, hsub [] (by kernel_rfl) rfl w1 c1⟩
/-- recyclingref18.Check -/
def m_recyclingref18_Check (N : Nat) (p0 : (List ApiEmptying)) (p1 : Int) (p2 : Int) : Option (Int) :=
 (if 512 < (List.length p0 : Int) then
  some ((8 : Int))
 else
  (andThen
   (loopM (fun (s48 : Int) =>
    (if s48 < (List.length p0 : Int) then
     ck ((0 : Int) ≤ s48 ∧ s48 < (List.length p0 : Int)) (
      Option.bind (m_recyclingref18_fault N (ix p0 s48) p1 p2) fun r52 => (if r52 ≠ 0 then
       some (.done (.done (r52)))
      else
       ck (I64 (s48 + (1 : Int))) (
        some (.next (s48 + (1 : Int))))))
    else
     some (.done (.next ())))) N (0 : Int))
  fun (_s30 : Unit) =>
   (andThen
    (loopM (fun (s298 : Int) =>
     (if s298 < (List.length p0 : Int) then
      (andThen
       (loopM (fun (s338 : Int) =>
        (if s338 < s298 then
         ck ((0 : Int) ≤ s298 ∧ s298 < (List.length p0 : Int)) (
          ck ((0 : Int) ≤ s338 ∧ s338 < (List.length p0 : Int)) (
           (if (ix p0 s298).ID = (ix p0 s338).ID then
            some (.done (.done (.done (.done ((6 : Int))))))
           else
            ck (I64 (s338 + (1 : Int))) (
             some (.next (s338 + (1 : Int)))))))
        else
         some (.done (.next ())))) N (0 : Int))
      fun (_s322 : Unit) =>
       ck (I64 (s298 + (1 : Int))) (
        some (.next (s298 + (1 : Int)))))
     else
      some (.done (.next ())))) N (0 : Int))
   fun (_s200 : Unit) =>
    some ((0 : Int)))))
set_option maxHeartbeats 2000000 in
set_option maxRecDepth 20000 in
theorem m_recyclingref18_Check_ok (N : Nat) (w0 : World) (p0 : (List ApiEmptying)) (p1 : Int) (p2 : Int) (A_p0 : Option Addr) (n_p0 c_p0 : Nat) (hr_p0 : RdE w0 7 encApiEmptying A_p0 p0) (hz_p0 : SW A_p0 n_p0 c_p0 (List.length p0)) (r : Int) (hr : m_recyclingref18_Check N p0 p1 p2 = some r) :
  Calls Tryz.prog 36 [.slice A_p0 n_p0 c_p0, .int .i64 p1, .int .i64 p2].toArray w0 fun x w1 => ∃ u, x = .returned ((fun (r : Int) (_u : Unit) => .int .i64 r) r u) ∧ Hs w0 ((fun (_r : Int) (_u : Unit) => []) r u) w1 := by
 refine calls_cm (n := 52) (R := fun r x w1 => ∃ u, x = .returned ((fun (r : Int) (_u : Unit) => .int .i64 r) r u) ∧ Hs w0 ((fun (_r : Int) (_u : Unit) => []) r u) w1) Tryz.func36 rfl rfl (Nat.le_of_ble_eq_true rfl) ?_ r hr
 unfold m_recyclingref18_Check
 refine cq ?_
 refine cr ?_
 refine lv 6 (by kernel_rfl) (fun w1 c1 => (oa (v := .int .i64 _) rfl)) ?_
 refine ln ?_
 refine xn ?_
 refine cq ?_
 refine cq ?_
 refine cr ?_
 refine lv 11 (by kernel_rfl) (fun w1 c1 => (om (v := .slice _ _ _) rfl)) ?_
 refine lv 12 (by kernel_rfl) (fun w1 c1 => (op_lenN rfl (by kernel_rfl) hz_p0.2.2)) ?_
 refine lv 13 (by kernel_rfl) (fun w1 c1 => (op_gtr rfl rfl)) ?_
 refine ln ?_
 refine xn ?_
 refine cm_cond (by kernel_rfl) rfl (fun h5 => ?_) (fun h5 => ?_)
 ·skip
  refine cq ?_
  refine cr ?_
  refine lv 6 (by kernel_rfl) (fun w1 c1 => (oa (v := .int .i64 _) rfl)) ?_
  refine ln ?_
  refine xn ?_
  refine cm_ret ?_
  refine xm_thenR ?_
  exact xm_retT rfl (by kernel_rfl) (show _ = Value.int .i64 _ from rfl) fun w1 c1 => ⟨(), rfl, hsub [] (by kernel_rfl) rfl w1 c1⟩
 ·skip
  refine cm_skip ?_
  refine xn ?_
  refine cm_join (σ := Unit) (ξ := Unit) (fun s30 u31 => [(0, .slice A_p0 n_p0 c_p0)]) (fun s30 u31 => []) ?_ ?_
  ·skip
   refine cq ?_
   refine cr ?_
   refine lv 7 (by kernel_rfl) (fun w1 c1 => (oa (v := .int .i64 _) rfl)) ?_
   refine ln ?_
   refine xn ?_
   refine cm_block ?_
   refine cm_loop (σ := Int) (ξ := Unit) (fun s48 u49 => [(0, .slice A_p0 n_p0 c_p0), (1, .int .i64 p1), (2, .int .i64 p2), (7, .int .i64 s48)]) (fun s48 u49 => []) () ?_ ?_ ?_
   ·exact (sc (by kernel_rfl) rfl (sc (by kernel_rfl) rfl (sc (by kernel_rfl) rfl (sc (by kernel_rfl) rfl sub_nil))))
   ·exact hsub [] (by kernel_rfl) rfl
   intro s48 u49
   refine cq ?_
   refine cq ?_
   refine cr ?_
   refine lv 14 (by kernel_rfl) (fun w1 c1 => (om (v := .int .i64 _) rfl)) ?_
   refine lv 15 (by kernel_rfl) (fun w1 c1 => (om (v := .slice _ _ _) rfl)) ?_
   refine lv 16 (by kernel_rfl) (fun w1 c1 => (op_lenN rfl (by kernel_rfl) hz_p0.2.2)) ?_
   refine lv 17 (by kernel_rfl) (fun w1 c1 => (op_lss rfl rfl)) ?_
   refine ln ?_
   refine xn ?_
   refine cm_cond (by kernel_rfl) rfl (fun h50 => ?_) (fun h50 => ?_)
   ·skip
    refine cm_skip ?_
    refine xn ?_
    refine cq ?_
    refine cm_block ?_
    refine cq ?_
    refine cr ?_
    refine lv 20 (by kernel_rfl) (fun w1 c1 => (om (v := .slice _ _ _) rfl)) ?_
    refine lv 21 (by kernel_rfl) (fun w1 c1 => (om (v := .int .i64 _) rfl)) ?_
    refine lm_ck (fun h51 => ?_)
    refine lv 22 (by kernel_rfl) (fun w1 c1 => (op_indexA 7 rfl rfl (by kernel_rfl) ((hr_p0.old c1).addr h51.1 h51.2) hz_p0.2.2 h51.1 h51.2)) ?_
    refine lv 23 (by kernel_rfl) (fun w1 c1 => (op_loadR [.int .i64 ((ix p0 s48).ID), .int .i64 ((ix p0 s48).Container), .int .i64 ((ix p0 s48).Vehicle), .int .i64 ((ix p0 s48).At), .int .i64 ((ix p0 s48).Mass.Lo), .int .i64 ((ix p0 s48).Mass.Hi), .bool ((ix p0 s48).Void)] rfl (by kernel_rfl) ((hr_p0.old c1).row h51.1 h51.2))) ?_
    refine lv 24 (by kernel_rfl) (fun w1 c1 => (om (v := .int .i64 _) rfl)) ?_
    refine lv 25 (by kernel_rfl) (fun w1 c1 => (om (v := .int .i64 _) rfl)) ?_
    refine lm_call 26 (V := (fun (r : Int) (_u : Unit) => .int .i64 r)) (HR := (fun (_r : Int) (_u : Unit) => [])) (by kernel_rfl) (fun w1 => op_call (by kernel_rfl)) (fun r1 hr1 w1 c1 => m_recyclingref18_fault_ok N w1 (ix p0 s48) p1 p2  r1 hr1) ?_
    intro r52 u53
    refine lv 8 (by kernel_rfl) (fun w1 c1 => (oa (v := .int .i64 _) rfl)) ?_
    refine ln ?_
    refine xn ?_
    refine cq ?_
    refine cr ?_
    refine lv 27 (by kernel_rfl) (fun w1 c1 => (om (v := .int .i64 _) rfl)) ?_
    refine lv 28 (by kernel_rfl) (fun w1 c1 => (op_neq rfl rfl)) ?_
    refine ln ?_
    refine xn ?_
    refine cm_cond (by kernel_rfl) rfl (fun h54 => ?_) (fun h54 => ?_)
    ·skip
     refine cq ?_
     refine cr ?_
     refine lv 29 (by kernel_rfl) (fun w1 c1 => (om (v := .int .i64 _) rfl)) ?_
     refine lv 6 (by kernel_rfl) (fun w1 c1 => (oa (v := .int .i64 _) rfl)) ?_
     refine ln ?_
     refine xn ?_
     refine cm_ret ?_
     refine xm_inR ?_
     refine xm_thenR ?_
     refine xm_lret ?_
     refine xm_inR ?_
     refine xm_lret ?_
     exact xm_retT rfl (by kernel_rfl) (show _ = Value.int .i64 _ from rfl) fun w1 c1 => ⟨(), rfl, hsub [] (by kernel_rfl) rfl w1 c1⟩
    ·skip
     refine cm_skip ?_
     refine xm_inN ?_
     refine xn ?_
     refine cr ?_
     refine lv 18 (by kernel_rfl) (fun w1 c1 => (om (v := .int .i64 _) rfl)) ?_
     refine lm_ck (fun h55 => ?_)
     refine lv 19 (by kernel_rfl) (fun w1 c1 => (op_add rfl rfl h55)) ?_
     refine lv 7 (by kernel_rfl) (fun w1 c1 => (oa (v := .int .i64 _) rfl)) ?_
     refine ln ?_
     exact xm_lnext () (sc (by kernel_rfl) rfl (sc (by kernel_rfl) rfl (sc (by kernel_rfl) rfl (sc (by kernel_rfl) rfl sub_nil)))) (hsub [] (by kernel_rfl) rfl)
   ·skip
    refine cm_exit ?_
    refine xm_thenE ?_
    refine xm_lexit ?_
    refine xm_here ?_
    exact xm_lnext () (sc (by kernel_rfl) rfl sub_nil) (hsub [] (by kernel_rfl) rfl)
  intro s30 u31
  refine cm_join (σ := Unit) (ξ := Unit) (fun s200 u201 => []) (fun s200 u201 => []) ?_ ?_
  ·skip
   refine cq ?_
   refine cr ?_
   refine lv 9 (by kernel_rfl) (fun w1 c1 => (oa (v := .int .i64 _) rfl)) ?_
   refine ln ?_
   refine xn ?_
   refine cm_block ?_
   refine cm_loop (σ := Int) (ξ := Unit) (fun s298 u299 => [(0, .slice A_p0 n_p0 c_p0), (9, .int .i64 s298)]) (fun s298 u299 => []) () ?_ ?_ ?_
   ·exact (sc (by kernel_rfl) rfl (sc (by kernel_rfl) rfl sub_nil))
   ·exact hsub [] (by kernel_rfl) rfl
   intro s298 u299
   refine cq ?_
   refine cq ?_
   refine cr ?_
   refine lv 30 (by kernel_rfl) (fun w1 c1 => (om (v := .int .i64 _) rfl)) ?_
   refine lv 31 (by kernel_rfl) (fun w1 c1 => (om (v := .slice _ _ _) rfl)) ?_
   refine lv 32 (by kernel_rfl) (fun w1 c1 => (op_lenN rfl (by kernel_rfl) hz_p0.2.2)) ?_
   refine lv 33 (by kernel_rfl) (fun w1 c1 => (op_lss rfl rfl)) ?_
   refine ln ?_
   refine xn ?_
   refine cm_cond (by kernel_rfl) rfl (fun h300 => ?_) (fun h300 => ?_)
   ·skip
    refine cm_skip ?_
    refine xn ?_
    refine cm_join (σ := Unit) (ξ := Unit) (fun s322 u323 => [(0, .slice A_p0 n_p0 c_p0), (9, .int .i64 s298)]) (fun s322 u323 => []) ?_ ?_
    ·skip
     refine cm_block ?_
     refine cq ?_
     refine cr ?_
     refine lv 10 (by kernel_rfl) (fun w1 c1 => (oa (v := .int .i64 _) rfl)) ?_
     refine ln ?_
     refine xn ?_
     refine cm_block ?_
     refine cm_loop (σ := Int) (ξ := Unit) (fun s338 u339 => [(0, .slice A_p0 n_p0 c_p0), (9, .int .i64 s298), (10, .int .i64 s338)]) (fun s338 u339 => []) () ?_ ?_ ?_
     ·exact (sc (by kernel_rfl) rfl (sc (by kernel_rfl) rfl (sc (by kernel_rfl) rfl sub_nil)))
     ·exact hsub [] (by kernel_rfl) rfl
     intro s338 u339
     refine cq ?_
     refine cq ?_
     refine cr ?_
     refine lv 36 (by kernel_rfl) (fun w1 c1 => (om (v := .int .i64 _) rfl)) ?_
     refine lv 37 (by kernel_rfl) (fun w1 c1 => (om (v := .int .i64 _) rfl)) ?_
     refine lv 38 (by kernel_rfl) (fun w1 c1 => (op_lss rfl rfl)) ?_
     refine ln ?_
     refine xn ?_
     refine cm_cond (by kernel_rfl) rfl (fun h340 => ?_) (fun h340 => ?_)
     ·skip
      refine cm_skip ?_
      refine xn ?_
      refine cq ?_
      refine cm_block ?_
      refine cq ?_
      refine cm_ck (fun h341 => ?_)
      refine cm_ck (fun h342 => ?_)
      refine cm_drawn [(51, .bool (decide ((ix p0 s298).ID = (ix p0 s338).ID)))] (by kernel_rfl) (by kernel_rfl) ?_ ?_
      ·skip
       refine wv 41 (by kernel_rfl) (fun w1 c1 => (om (v := .slice _ _ _) rfl)) ?_
       refine wv 42 (by kernel_rfl) (fun w1 c1 => (om (v := .int .i64 _) rfl)) ?_
       refine wv 43 (by kernel_rfl) (fun w1 c1 => (op_indexA 7 rfl rfl (by kernel_rfl) ((hr_p0.old c1).addr h341.1 h341.2) hz_p0.2.2 h341.1 h341.2)) ?_
       refine wv 44 (by kernel_rfl) (fun w1 c1 => (op_field0 rfl (by kernel_rfl))) ?_
       refine wv 45 (by kernel_rfl) (fun w1 c1 => (ol (v := .int .i64 ((ix p0 s298).ID)) rfl (by kernel_rfl) ((hr_p0.old c1).cell0 h341.1 h341.2 rfl))) ?_
       refine wv 46 (by kernel_rfl) (fun w1 c1 => (om (v := .slice _ _ _) rfl)) ?_
       refine wv 47 (by kernel_rfl) (fun w1 c1 => (om (v := .int .i64 _) rfl)) ?_
       refine wv 48 (by kernel_rfl) (fun w1 c1 => (op_indexA 7 rfl rfl (by kernel_rfl) ((hr_p0.old c1).addr h342.1 h342.2) hz_p0.2.2 h342.1 h342.2)) ?_
       refine wv 49 (by kernel_rfl) (fun w1 c1 => (op_field0 rfl (by kernel_rfl))) ?_
       refine wv 50 (by kernel_rfl) (fun w1 c1 => (ol (v := .int .i64 ((ix p0 s338).ID)) rfl (by kernel_rfl) ((hr_p0.old c1).cell0 h342.1 h342.2 rfl))) ?_
       refine wv 51 (by kernel_rfl) (fun w1 c1 => (op_eql rfl rfl)) ?_
       exact leaf_q (sub_out 11 _ rfl (by kernel_rfl) ⟨rfl, trivial⟩)
      refine xn ?_
      refine cm_cond (by kernel_rfl) rfl (fun h343 => ?_) (fun h343 => ?_)
      ·skip
       refine cq ?_
       refine cr ?_
       refine lv 6 (by kernel_rfl) (fun w1 c1 => (oa (v := .int .i64 _) rfl)) ?_
       refine ln ?_
       refine xn ?_
       refine cm_ret ?_
       refine xm_inR ?_
       refine xm_thenR ?_
       refine xm_lret ?_
       refine xm_inR ?_
       refine xm_inR ?_
       refine xm_lret ?_
       refine xm_lret ?_
       refine xm_inR ?_
       refine xm_lret ?_
       exact xm_retT rfl (by kernel_rfl) (show _ = Value.int .i64 _ from rfl) fun w1 c1 => ⟨(), rfl, hsub [] (by kernel_rfl) rfl w1 c1⟩
      ·skip
       refine cm_skip ?_
       refine xm_inN ?_
       refine xn ?_
       refine cr ?_
       refine lv 39 (by kernel_rfl) (fun w1 c1 => (om (v := .int .i64 _) rfl)) ?_
       refine lm_ck (fun h344 => ?_)
       refine lv 40 (by kernel_rfl) (fun w1 c1 => (op_add rfl rfl h344)) ?_
       refine lv 10 (by kernel_rfl) (fun w1 c1 => (oa (v := .int .i64 _) rfl)) ?_
       refine ln ?_
       exact xm_lnext () (sc (by kernel_rfl) rfl (sc (by kernel_rfl) rfl (sc (by kernel_rfl) rfl sub_nil))) (hsub [] (by kernel_rfl) rfl)
     ·skip
      refine cm_exit ?_
      refine xm_thenE ?_
      refine xm_lexit ?_
      refine xm_here ?_
      refine xm_inN ?_
      exact xm_lnext () (sc (by kernel_rfl) rfl (sc (by kernel_rfl) rfl sub_nil)) (hsub [] (by kernel_rfl) rfl)
    intro s322 u323
    refine cr ?_
    refine lv 34 (by kernel_rfl) (fun w1 c1 => (om (v := .int .i64 _) rfl)) ?_
    refine lm_ck (fun h345 => ?_)
    refine lv 35 (by kernel_rfl) (fun w1 c1 => (op_add rfl rfl h345)) ?_
    refine lv 9 (by kernel_rfl) (fun w1 c1 => (oa (v := .int .i64 _) rfl)) ?_
    refine ln ?_
    exact xm_lnext () (sc (by kernel_rfl) rfl (sc (by kernel_rfl) rfl sub_nil)) (hsub [] (by kernel_rfl) rfl)
   ·skip
    refine cm_exit ?_
    refine xm_thenE ?_
    refine xm_lexit ?_
    refine xm_here ?_
    exact xm_lnext () sub_nil (hsub [] (by kernel_rfl) rfl)
  intro s200 u201
  refine cq ?_
  refine cr ?_
  refine lv 6 (by kernel_rfl) (fun w1 c1 => (oa (v := .int .i64 _) rfl)) ?_
  refine ln ?_
  refine xn ?_
  refine cm_ret ?_
  exact xm_retT rfl (by kernel_rfl) (show _ = Value.int .i64 _ from rfl) fun w1 c1 => ⟨(), rfl, hsub [] (by kernel_rfl) rfl w1 c1⟩
/-- recyclingref18.ordered -/
def m_recyclingref18_ordered (N : Nat) (p0 : (List ApiEmptying)) : Option ((List Int)) :=
 (andThen
  (loopM (fun (s726 : (List Int) × Int) =>
   (if s726.2 < (List.length p0 : Int) then
    (andThen
     (loopM (fun (s826 : Int) =>
      ck (decide (0 < s826) = true → (0 : Int) ≤ s726.2 ∧ s726.2 < (List.length p0 : Int)) (
       ck (decide (0 < s826) = true → I64 (s826 - (1 : Int))) (
        ck (decide (0 < s826) = true → (0 : Int) ≤ (s826 - (1 : Int)) ∧ (s826 - (1 : Int)) < (List.length s726.1 : Int)) (
         ck (decide (0 < s826) = true → (0 : Int) ≤ (ix s726.1 (s826 - (1 : Int))) ∧ (ix s726.1 (s826 - (1 : Int))) < (List.length p0 : Int)) (
          ck (((decide (0 < s826)) && (!(decide ((ix p0 s726.2).At < (ix p0 (ix s726.1 (s826 - (1 : Int)))).At)))) = true → (0 : Int) ≤ s726.2 ∧ s726.2 < (List.length p0 : Int)) (
           ck (((decide (0 < s826)) && (!(decide ((ix p0 s726.2).At < (ix p0 (ix s726.1 (s826 - (1 : Int)))).At)))) = true → I64 (s826 - (1 : Int))) (
            ck (((decide (0 < s826)) && (!(decide ((ix p0 s726.2).At < (ix p0 (ix s726.1 (s826 - (1 : Int)))).At)))) = true → (0 : Int) ≤ (s826 - (1 : Int)) ∧ (s826 - (1 : Int)) < (List.length s726.1 : Int)) (
             ck (((decide (0 < s826)) && (!(decide ((ix p0 s726.2).At < (ix p0 (ix s726.1 (s826 - (1 : Int)))).At)))) = true → (0 : Int) ≤ (ix s726.1 (s826 - (1 : Int))) ∧ (ix s726.1 (s826 - (1 : Int))) < (List.length p0 : Int)) (
              ck ((((decide (0 < s826)) && (!(decide ((ix p0 s726.2).At < (ix p0 (ix s726.1 (s826 - (1 : Int)))).At)))) && (decide ((ix p0 s726.2).At = (ix p0 (ix s726.1 (s826 - (1 : Int)))).At))) = true → (0 : Int) ≤ s726.2 ∧ s726.2 < (List.length p0 : Int)) (
               ck ((((decide (0 < s826)) && (!(decide ((ix p0 s726.2).At < (ix p0 (ix s726.1 (s826 - (1 : Int)))).At)))) && (decide ((ix p0 s726.2).At = (ix p0 (ix s726.1 (s826 - (1 : Int)))).At))) = true → I64 (s826 - (1 : Int))) (
                ck ((((decide (0 < s826)) && (!(decide ((ix p0 s726.2).At < (ix p0 (ix s726.1 (s826 - (1 : Int)))).At)))) && (decide ((ix p0 s726.2).At = (ix p0 (ix s726.1 (s826 - (1 : Int)))).At))) = true → (0 : Int) ≤ (s826 - (1 : Int)) ∧ (s826 - (1 : Int)) < (List.length s726.1 : Int)) (
                 ck ((((decide (0 < s826)) && (!(decide ((ix p0 s726.2).At < (ix p0 (ix s726.1 (s826 - (1 : Int)))).At)))) && (decide ((ix p0 s726.2).At = (ix p0 (ix s726.1 (s826 - (1 : Int)))).At))) = true → (0 : Int) ≤ (ix s726.1 (s826 - (1 : Int))) ∧ (ix s726.1 (s826 - (1 : Int))) < (List.length p0 : Int)) (
                  (if ((decide (0 < s826)) && ((decide ((ix p0 s726.2).At < (ix p0 (ix s726.1 (s826 - (1 : Int)))).At)) || ((decide ((ix p0 s726.2).At = (ix p0 (ix s726.1 (s826 - (1 : Int)))).At)) && (decide ((ix p0 s726.2).ID < (ix p0 (ix s726.1 (s826 - (1 : Int)))).ID))))) = true then
                   ck (I64 (s826 - (1 : Int))) (
                    some (.next (s826 - (1 : Int))))
                  else
                   some (.done (.next s826)))))))))))))))) N (List.length s726.1 : Int))
    fun (s786 : Int) =>
     ck ((0 : Int) ≤ s786 ∧ s786 ≤ (List.length s726.1 : Int)) (
      ck ((List.length ([] : List Int) + List.length (List.drop (Int.toNat s786) s726.1)) * 8 ≤ 140737488355328) (
       ck ((0 : Int) ≤ s786 ∧ s786 ≤ (List.length s726.1 : Int)) (
        ck (0 < List.length ([s726.2])) (
         ck ((List.length (List.take (Int.toNat s786) s726.1) + List.length ([s726.2])) * 8 ≤ 140737488355328) (
          ck ((List.length ((List.take (Int.toNat s786) s726.1) ++ ([s726.2])) + List.length (([] : List Int) ++ (List.drop (Int.toNat s786) s726.1))) * 8 ≤ 140737488355328) (
           ck (I64 (s726.2 + (1 : Int))) (
            some (.next ((((List.take (Int.toNat s786) s726.1) ++ ([s726.2])) ++ (([] : List Int) ++ (List.drop (Int.toNat s786) s726.1))), (s726.2 + (1 : Int))))))))))))
   else
    some (.done (.next s726.1)))) N (([] : List Int), (0 : Int)))
 fun (s438 : (List Int)) =>
  some (s438))
set_option maxHeartbeats 2000000 in
set_option maxRecDepth 20000 in
theorem m_recyclingref18_ordered_ok (N : Nat) (w0 : World) (p0 : (List ApiEmptying)) (A_p0 : Option Addr) (n_p0 c_p0 : Nat) (hr_p0 : RdE w0 7 encApiEmptying A_p0 p0) (hz_p0 : SW A_p0 n_p0 c_p0 (List.length p0)) (r : (List Int)) (hr : m_recyclingref18_ordered N p0 = some r) :
  Calls Tryz.prog 73 [.slice A_p0 n_p0 c_p0].toArray w0 fun x w1 => ∃ u, x = .returned ((fun (_r : (List Int)) (u : (Option Addr) × Nat × Nat) => .slice u.1 u.2.1 u.2.2) r u) ∧ Hs w0 ((fun (r : (List Int)) (u : (Option Addr) × Nat × Nat) => [ownE 3 1 encI u.1 u.2.1 u.2.2 r]) r u) w1 := by
 refine calls_cm (n := 86) (R := fun r x w1 => ∃ u, x = .returned ((fun (_r : (List Int)) (u : (Option Addr) × Nat × Nat) => .slice u.1 u.2.1 u.2.2) r u) ∧ Hs w0 ((fun (r : (List Int)) (u : (Option Addr) × Nat × Nat) => [ownE 3 1 encI u.1 u.2.1 u.2.2 r]) r u) w1) Tryz.func73 rfl rfl (Nat.le_of_ble_eq_true rfl) ?_ r hr
 unfold m_recyclingref18_ordered
 refine cq ?_
 refine cr ?_
 refine lv 2 (by kernel_rfl) (fun w1 c1 => (oa (v := .slice _ _ _) rfl)) ?_
 refine ln ?_
 refine xn ?_
 refine cq ?_
 refine cr ?_
 refine lm_slice0 7 (el := 3) (sz := 1) (bytes := 8) (enc := encI) (by kernel_rfl) (by kernel_rfl) ?_
 intro A5 n6 k7 h8
 refine lv 3 (by kernel_rfl) (fun w1 c1 => (oa (v := .slice _ _ _) rfl)) ?_
 refine ln ?_
 refine xn ?_
 refine cm_join (σ := (List Int)) (ξ := (Option Addr) × Nat × Nat) (fun s438 u439 => [(3, .slice u439.1 u439.2.1 u439.2.2)]) (fun s438 u439 => [ownE 3 1 encI u439.1 u439.2.1 u439.2.2 s438]) ?_ ?_
 ·skip
  refine cq ?_
  refine cr ?_
  refine lv 4 (by kernel_rfl) (fun w1 c1 => (oa (v := .int .i64 _) rfl)) ?_
  refine ln ?_
  refine xn ?_
  refine cm_block ?_
  refine cm_loop (σ := (List Int) × Int) (ξ := (Option Addr) × Nat × Nat) (fun s726 u727 => [(0, .slice A_p0 n_p0 c_p0), (3, .slice u727.1 u727.2.1 u727.2.2), (4, .int .i64 s726.2)]) (fun s726 u727 => [ownE 3 1 encI u727.1 u727.2.1 u727.2.2 s726.1]) (A5, n6, k7) ?_ ?_ ?_
  ·exact (sc (by kernel_rfl) rfl (sc (by kernel_rfl) rfl (sc (by kernel_rfl) rfl sub_nil)))
  ·exact hsub [0] (by kernel_rfl) rfl
  intro s726 u727
  refine cq ?_
  refine cq ?_
  refine cr ?_
  refine lv 8 (by kernel_rfl) (fun w1 c1 => (om (v := .int .i64 _) rfl)) ?_
  refine lv 9 (by kernel_rfl) (fun w1 c1 => (om (v := .slice _ _ _) rfl)) ?_
  refine lv 10 (by kernel_rfl) (fun w1 c1 => (op_lenN rfl (by kernel_rfl) hz_p0.2.2)) ?_
  refine lv 11 (by kernel_rfl) (fun w1 c1 => (op_lss rfl rfl)) ?_
  refine ln ?_
  refine xn ?_
  refine cm_cond (by kernel_rfl) rfl (fun h728 => ?_) (fun h728 => ?_)
  ·skip
   refine cm_skip ?_
   refine xn ?_
   refine cq ?_
   refine cm_block ?_
   refine cq ?_
   refine cr ?_
   refine lv 14 (by kernel_rfl) (fun w1 c1 => (om (v := .slice _ _ _) rfl)) ?_
   refine lv 15 (by kernel_rfl) (fun w1 c1 => (op_lenN rfl (by kernel_rfl) (c1.ownZ 0 rfl).2.2)) ?_
   refine lv 5 (by kernel_rfl) (fun w1 c1 => (oa (v := .int .i64 _) rfl)) ?_
   refine ln ?_
   refine xn ?_
   refine cm_join (σ := Int) (ξ := Unit) (fun s786 u787 => [(0, .slice A_p0 n_p0 c_p0), (3, .slice u727.1 u727.2.1 u727.2.2), (4, .int .i64 s726.2), (5, .int .i64 s786)]) (fun s786 u787 => [ownE 3 1 encI u727.1 u727.2.1 u727.2.2 s726.1]) ?_ ?_
   ·skip
    refine cm_block ?_
    refine cm_loop (σ := Int) (ξ := Unit) (fun s826 u827 => [(0, .slice A_p0 n_p0 c_p0), (3, .slice u727.1 u727.2.1 u727.2.2), (4, .int .i64 s726.2), (5, .int .i64 s826)]) (fun s826 u827 => [ownE 3 1 encI u727.1 u727.2.1 u727.2.2 s726.1]) () ?_ ?_ ?_
    ·exact (sc (by kernel_rfl) rfl (sc (by kernel_rfl) rfl (sc (by kernel_rfl) rfl (sc (by kernel_rfl) rfl sub_nil))))
    ·exact hsub [0] (by kernel_rfl) rfl
    intro s826 u827
    refine cq ?_
    refine cq ?_
    refine cm_ck (fun h828 => ?_)
    refine cm_ck (fun h829 => ?_)
    refine cm_ck (fun h830 => ?_)
    refine cm_ck (fun h831 => ?_)
    refine cm_ck (fun h832 => ?_)
    refine cm_ck (fun h833 => ?_)
    refine cm_ck (fun h834 => ?_)
    refine cm_ck (fun h835 => ?_)
    refine cm_ck (fun h836 => ?_)
    refine cm_ck (fun h837 => ?_)
    refine cm_ck (fun h838 => ?_)
    refine cm_ck (fun h839 => ?_)
    refine cm_drawn [(68, .bool ((decide (0 < s826)) && ((decide ((ix p0 s726.2).At < (ix p0 (ix s726.1 (s826 - (1 : Int)))).At)) || ((decide ((ix p0 s726.2).At = (ix p0 (ix s726.1 (s826 - (1 : Int)))).At)) && (decide ((ix p0 s726.2).ID < (ix p0 (ix s726.1 (s826 - (1 : Int)))).ID))))))] (by kernel_rfl) (by kernel_rfl) ?_ ?_
    ·skip
     refine wv 16 (by kernel_rfl) (fun w1 c1 => (om (v := .int .i64 _) rfl)) ?_
     refine wq_dec 17 (by kernel_rfl) (fun w1 c1 => (op_gtr rfl rfl)) (fun h840 => ?_) (fun h840 => ?_)
     ·skip
      refine wv 18 (by kernel_rfl) (fun w1 c1 => (om (v := .bool true) rfl)) ?_
      refine wv 19 (by kernel_rfl) (fun w1 c1 => (om (v := .slice _ _ _) rfl)) ?_
      refine wv 20 (by kernel_rfl) (fun w1 c1 => (om (v := .int .i64 _) rfl)) ?_
      refine wv 21 (by kernel_rfl) (fun w1 c1 => (op_indexA 7 rfl rfl (by kernel_rfl) ((hr_p0.old c1).addr (h828 (by rw [decide_eq_true h840] <;> rfl)).1 (h828 (by rw [decide_eq_true h840] <;> rfl)).2) hz_p0.2.2 (h828 (by rw [decide_eq_true h840] <;> rfl)).1 (h828 (by rw [decide_eq_true h840] <;> rfl)).2)) ?_
      refine wv 22 (by kernel_rfl) (fun w1 c1 => (op_field (m := 3) rfl (by kernel_rfl))) ?_
      refine wv 23 (by kernel_rfl) (fun w1 c1 => (ol (v := .int .i64 ((ix p0 s726.2).At)) rfl (by kernel_rfl) ((hr_p0.old c1).cell (j := 3) (h828 (by rw [decide_eq_true h840] <;> rfl)).1 (h828 (by rw [decide_eq_true h840] <;> rfl)).2 rfl))) ?_
      refine wv 24 (by kernel_rfl) (fun w1 c1 => (om (v := .slice _ _ _) rfl)) ?_
      refine wv 25 (by kernel_rfl) (fun w1 c1 => (om (v := .slice _ _ _) rfl)) ?_
      refine wv 26 (by kernel_rfl) (fun w1 c1 => (om (v := .int .i64 _) rfl)) ?_
      refine wv 27 (by kernel_rfl) (fun w1 c1 => (op_sub rfl rfl (h829 (by rw [decide_eq_true h840] <;> rfl)))) ?_
      refine wv 28 (by kernel_rfl) (fun w1 c1 => (op_indexA 1 rfl rfl (by kernel_rfl) ((c1.own 0 rfl encI_len).addr (h830 (by rw [decide_eq_true h840] <;> rfl)).1 (h830 (by rw [decide_eq_true h840] <;> rfl)).2) (c1.ownZ 0 rfl).2.2 (h830 (by rw [decide_eq_true h840] <;> rfl)).1 (h830 (by rw [decide_eq_true h840] <;> rfl)).2)) ?_
      refine wv 29 (by kernel_rfl) (fun w1 c1 => (ol (v := .int .i64 (ix s726.1 (s826 - (1 : Int)))) rfl (by kernel_rfl) ((c1.own 0 rfl encI_len).cell0 (h830 (by rw [decide_eq_true h840] <;> rfl)).1 (h830 (by rw [decide_eq_true h840] <;> rfl)).2 rfl))) ?_
      refine wv 30 (by kernel_rfl) (fun w1 c1 => (op_indexA 7 rfl rfl (by kernel_rfl) ((hr_p0.old c1).addr (h831 (by rw [decide_eq_true h840] <;> rfl)).1 (h831 (by rw [decide_eq_true h840] <;> rfl)).2) hz_p0.2.2 (h831 (by rw [decide_eq_true h840] <;> rfl)).1 (h831 (by rw [decide_eq_true h840] <;> rfl)).2)) ?_
      refine wv 31 (by kernel_rfl) (fun w1 c1 => (op_field (m := 3) rfl (by kernel_rfl))) ?_
      refine wv 32 (by kernel_rfl) (fun w1 c1 => (ol (v := .int .i64 ((ix p0 (ix s726.1 (s826 - (1 : Int)))).At)) rfl (by kernel_rfl) ((hr_p0.old c1).cell (j := 3) (h831 (by rw [decide_eq_true h840] <;> rfl)).1 (h831 (by rw [decide_eq_true h840] <;> rfl)).2 rfl))) ?_
      refine wq_dec 33 (by kernel_rfl) (fun w1 c1 => (op_lss rfl rfl)) (fun h841 => ?_) (fun h841 => ?_)
      ·skip
       refine wv 34 (by kernel_rfl) (fun w1 c1 => (om (v := .bool true) rfl)) ?_
       refine wk 35 (by kernel_rfl) ?_
       refine wk 36 (by kernel_rfl) ?_
       refine wk 37 (by kernel_rfl) ?_
       refine wk 38 (by kernel_rfl) ?_
       refine wk 39 (by kernel_rfl) ?_
       refine wk 40 (by kernel_rfl) ?_
       refine wk 41 (by kernel_rfl) ?_
       refine wk 42 (by kernel_rfl) ?_
       refine wk 43 (by kernel_rfl) ?_
       refine wk 44 (by kernel_rfl) ?_
       refine wk 45 (by kernel_rfl) ?_
       refine wk 46 (by kernel_rfl) ?_
       refine wk 47 (by kernel_rfl) ?_
       refine wk 48 (by kernel_rfl) ?_
       refine wk 49 (by kernel_rfl) ?_
       refine wk 50 (by kernel_rfl) ?_
       refine wk 51 (by kernel_rfl) ?_
       refine wk 52 (by kernel_rfl) ?_
       refine wk 53 (by kernel_rfl) ?_
       refine wk 54 (by kernel_rfl) ?_
       refine wk 55 (by kernel_rfl) ?_
       refine wk 56 (by kernel_rfl) ?_
       refine wk 57 (by kernel_rfl) ?_
       refine wk 58 (by kernel_rfl) ?_
       refine wk 59 (by kernel_rfl) ?_
       refine wk 60 (by kernel_rfl) ?_
       refine wk 61 (by kernel_rfl) ?_
       refine wk 62 (by kernel_rfl) ?_
       refine wk 63 (by kernel_rfl) ?_
       refine wk 64 (by kernel_rfl) ?_
       refine wk 65 (by kernel_rfl) ?_
       refine wk 66 (by kernel_rfl) ?_
       refine wv 67 (by kernel_rfl) (fun w1 c1 => (opt (v := .bool true) rfl rfl)) ?_
       refine wv 68 (by kernel_rfl) (fun w1 c1 => (opt (v := .bool true) rfl rfl)) ?_
       exact leaf_q (sub_out 53 _ rfl (by kernel_rfl) ⟨(congrArg Value.bool (by rw [decide_eq_true h840, decide_eq_true h841] <;> rfl)), trivial⟩)
      ·skip
       refine wv 34 (by kernel_rfl) (fun w1 c1 => (om (v := .bool false) rfl)) ?_
       refine wv 35 (by kernel_rfl) (fun w1 c1 => (om (v := .slice _ _ _) rfl)) ?_
       refine wv 36 (by kernel_rfl) (fun w1 c1 => (om (v := .int .i64 _) rfl)) ?_
       refine wv 37 (by kernel_rfl) (fun w1 c1 => (op_indexA 7 rfl rfl (by kernel_rfl) ((hr_p0.old c1).addr (h832 (by rw [decide_eq_true h840, decide_eq_false h841] <;> rfl)).1 (h832 (by rw [decide_eq_true h840, decide_eq_false h841] <;> rfl)).2) hz_p0.2.2 (h832 (by rw [decide_eq_true h840, decide_eq_false h841] <;> rfl)).1 (h832 (by rw [decide_eq_true h840, decide_eq_false h841] <;> rfl)).2)) ?_
       refine wv 38 (by kernel_rfl) (fun w1 c1 => (op_field (m := 3) rfl (by kernel_rfl))) ?_
       refine wv 39 (by kernel_rfl) (fun w1 c1 => (ol (v := .int .i64 ((ix p0 s726.2).At)) rfl (by kernel_rfl) ((hr_p0.old c1).cell (j := 3) (h832 (by rw [decide_eq_true h840, decide_eq_false h841] <;> rfl)).1 (h832 (by rw [decide_eq_true h840, decide_eq_false h841] <;> rfl)).2 rfl))) ?_
       refine wv 40 (by kernel_rfl) (fun w1 c1 => (om (v := .slice _ _ _) rfl)) ?_
       refine wv 41 (by kernel_rfl) (fun w1 c1 => (om (v := .slice _ _ _) rfl)) ?_
       refine wv 42 (by kernel_rfl) (fun w1 c1 => (om (v := .int .i64 _) rfl)) ?_
       refine wv 43 (by kernel_rfl) (fun w1 c1 => (op_sub rfl rfl (h833 (by rw [decide_eq_true h840, decide_eq_false h841] <;> rfl)))) ?_
       refine wv 44 (by kernel_rfl) (fun w1 c1 => (op_indexA 1 rfl rfl (by kernel_rfl) ((c1.own 0 rfl encI_len).addr (h834 (by rw [decide_eq_true h840, decide_eq_false h841] <;> rfl)).1 (h834 (by rw [decide_eq_true h840, decide_eq_false h841] <;> rfl)).2) (c1.ownZ 0 rfl).2.2 (h834 (by rw [decide_eq_true h840, decide_eq_false h841] <;> rfl)).1 (h834 (by rw [decide_eq_true h840, decide_eq_false h841] <;> rfl)).2)) ?_
       refine wv 45 (by kernel_rfl) (fun w1 c1 => (ol (v := .int .i64 (ix s726.1 (s826 - (1 : Int)))) rfl (by kernel_rfl) ((c1.own 0 rfl encI_len).cell0 (h834 (by rw [decide_eq_true h840, decide_eq_false h841] <;> rfl)).1 (h834 (by rw [decide_eq_true h840, decide_eq_false h841] <;> rfl)).2 rfl))) ?_
       refine wv 46 (by kernel_rfl) (fun w1 c1 => (op_indexA 7 rfl rfl (by kernel_rfl) ((hr_p0.old c1).addr (h835 (by rw [decide_eq_true h840, decide_eq_false h841] <;> rfl)).1 (h835 (by rw [decide_eq_true h840, decide_eq_false h841] <;> rfl)).2) hz_p0.2.2 (h835 (by rw [decide_eq_true h840, decide_eq_false h841] <;> rfl)).1 (h835 (by rw [decide_eq_true h840, decide_eq_false h841] <;> rfl)).2)) ?_
       refine wv 47 (by kernel_rfl) (fun w1 c1 => (op_field (m := 3) rfl (by kernel_rfl))) ?_
       refine wv 48 (by kernel_rfl) (fun w1 c1 => (ol (v := .int .i64 ((ix p0 (ix s726.1 (s826 - (1 : Int)))).At)) rfl (by kernel_rfl) ((hr_p0.old c1).cell (j := 3) (h835 (by rw [decide_eq_true h840, decide_eq_false h841] <;> rfl)).1 (h835 (by rw [decide_eq_true h840, decide_eq_false h841] <;> rfl)).2 rfl))) ?_
       refine wq_dec 49 (by kernel_rfl) (fun w1 c1 => (op_eql rfl rfl)) (fun h842 => ?_) (fun h842 => ?_)
       ·skip
        refine wv 50 (by kernel_rfl) (fun w1 c1 => (om (v := .bool true) rfl)) ?_
        refine wv 51 (by kernel_rfl) (fun w1 c1 => (om (v := .slice _ _ _) rfl)) ?_
        refine wv 52 (by kernel_rfl) (fun w1 c1 => (om (v := .int .i64 _) rfl)) ?_
        refine wv 53 (by kernel_rfl) (fun w1 c1 => (op_indexA 7 rfl rfl (by kernel_rfl) ((hr_p0.old c1).addr (h836 (by rw [decide_eq_true h840, decide_eq_false h841, decide_eq_true h842] <;> rfl)).1 (h836 (by rw [decide_eq_true h840, decide_eq_false h841, decide_eq_true h842] <;> rfl)).2) hz_p0.2.2 (h836 (by rw [decide_eq_true h840, decide_eq_false h841, decide_eq_true h842] <;> rfl)).1 (h836 (by rw [decide_eq_true h840, decide_eq_false h841, decide_eq_true h842] <;> rfl)).2)) ?_
        refine wv 54 (by kernel_rfl) (fun w1 c1 => (op_field0 rfl (by kernel_rfl))) ?_
        refine wv 55 (by kernel_rfl) (fun w1 c1 => (ol (v := .int .i64 ((ix p0 s726.2).ID)) rfl (by kernel_rfl) ((hr_p0.old c1).cell0 (h836 (by rw [decide_eq_true h840, decide_eq_false h841, decide_eq_true h842] <;> rfl)).1 (h836 (by rw [decide_eq_true h840, decide_eq_false h841, decide_eq_true h842] <;> rfl)).2 rfl))) ?_
        refine wv 56 (by kernel_rfl) (fun w1 c1 => (om (v := .slice _ _ _) rfl)) ?_
        refine wv 57 (by kernel_rfl) (fun w1 c1 => (om (v := .slice _ _ _) rfl)) ?_
        refine wv 58 (by kernel_rfl) (fun w1 c1 => (om (v := .int .i64 _) rfl)) ?_
        refine wv 59 (by kernel_rfl) (fun w1 c1 => (op_sub rfl rfl (h837 (by rw [decide_eq_true h840, decide_eq_false h841, decide_eq_true h842] <;> rfl)))) ?_
        refine wv 60 (by kernel_rfl) (fun w1 c1 => (op_indexA 1 rfl rfl (by kernel_rfl) ((c1.own 0 rfl encI_len).addr (h838 (by rw [decide_eq_true h840, decide_eq_false h841, decide_eq_true h842] <;> rfl)).1 (h838 (by rw [decide_eq_true h840, decide_eq_false h841, decide_eq_true h842] <;> rfl)).2) (c1.ownZ 0 rfl).2.2 (h838 (by rw [decide_eq_true h840, decide_eq_false h841, decide_eq_true h842] <;> rfl)).1 (h838 (by rw [decide_eq_true h840, decide_eq_false h841, decide_eq_true h842] <;> rfl)).2)) ?_
        refine wv 61 (by kernel_rfl) (fun w1 c1 => (ol (v := .int .i64 (ix s726.1 (s826 - (1 : Int)))) rfl (by kernel_rfl) ((c1.own 0 rfl encI_len).cell0 (h838 (by rw [decide_eq_true h840, decide_eq_false h841, decide_eq_true h842] <;> rfl)).1 (h838 (by rw [decide_eq_true h840, decide_eq_false h841, decide_eq_true h842] <;> rfl)).2 rfl))) ?_
        refine wv 62 (by kernel_rfl) (fun w1 c1 => (op_indexA 7 rfl rfl (by kernel_rfl) ((hr_p0.old c1).addr (h839 (by rw [decide_eq_true h840, decide_eq_false h841, decide_eq_true h842] <;> rfl)).1 (h839 (by rw [decide_eq_true h840, decide_eq_false h841, decide_eq_true h842] <;> rfl)).2) hz_p0.2.2 (h839 (by rw [decide_eq_true h840, decide_eq_false h841, decide_eq_true h842] <;> rfl)).1 (h839 (by rw [decide_eq_true h840, decide_eq_false h841, decide_eq_true h842] <;> rfl)).2)) ?_
        refine wv 63 (by kernel_rfl) (fun w1 c1 => (op_field0 rfl (by kernel_rfl))) ?_
        refine wv 64 (by kernel_rfl) (fun w1 c1 => (ol (v := .int .i64 ((ix p0 (ix s726.1 (s826 - (1 : Int)))).ID)) rfl (by kernel_rfl) ((hr_p0.old c1).cell0 (h839 (by rw [decide_eq_true h840, decide_eq_false h841, decide_eq_true h842] <;> rfl)).1 (h839 (by rw [decide_eq_true h840, decide_eq_false h841, decide_eq_true h842] <;> rfl)).2 rfl))) ?_
        refine wv 65 (by kernel_rfl) (fun w1 c1 => (op_lss rfl rfl)) ?_
        refine wv 66 (by kernel_rfl) (fun w1 c1 => (opt (v := .bool _) rfl rfl)) ?_
        refine wv 67 (by kernel_rfl) (fun w1 c1 => (opf (v := .bool _) rfl rfl)) ?_
        refine wv 68 (by kernel_rfl) (fun w1 c1 => (opt (v := .bool _) rfl rfl)) ?_
        exact leaf_q (sub_out 53 _ rfl (by kernel_rfl) ⟨(congrArg Value.bool (by rw [decide_eq_true h840, decide_eq_false h841, decide_eq_true h842] <;> rfl)), trivial⟩)
       ·skip
        refine wv 50 (by kernel_rfl) (fun w1 c1 => (om (v := .bool false) rfl)) ?_
        refine wk 51 (by kernel_rfl) ?_
        refine wk 52 (by kernel_rfl) ?_
        refine wk 53 (by kernel_rfl) ?_
        refine wk 54 (by kernel_rfl) ?_
        refine wk 55 (by kernel_rfl) ?_
        refine wk 56 (by kernel_rfl) ?_
        refine wk 57 (by kernel_rfl) ?_
        refine wk 58 (by kernel_rfl) ?_
        refine wk 59 (by kernel_rfl) ?_
        refine wk 60 (by kernel_rfl) ?_
        refine wk 61 (by kernel_rfl) ?_
        refine wk 62 (by kernel_rfl) ?_
        refine wk 63 (by kernel_rfl) ?_
        refine wk 64 (by kernel_rfl) ?_
        refine wk 65 (by kernel_rfl) ?_
        refine wv 66 (by kernel_rfl) (fun w1 c1 => (opf (v := .bool false) rfl rfl)) ?_
        refine wv 67 (by kernel_rfl) (fun w1 c1 => (opf (v := .bool false) rfl rfl)) ?_
        refine wv 68 (by kernel_rfl) (fun w1 c1 => (opt (v := .bool false) rfl rfl)) ?_
        exact leaf_q (sub_out 53 _ rfl (by kernel_rfl) ⟨(congrArg Value.bool (by rw [decide_eq_true h840, decide_eq_false h841, decide_eq_false h842] <;> rfl)), trivial⟩)
     ·skip
      refine wv 18 (by kernel_rfl) (fun w1 c1 => (om (v := .bool false) rfl)) ?_
      refine wk 19 (by kernel_rfl) ?_
      refine wk 20 (by kernel_rfl) ?_
      refine wk 21 (by kernel_rfl) ?_
      refine wk 22 (by kernel_rfl) ?_
      refine wk 23 (by kernel_rfl) ?_
      refine wk 24 (by kernel_rfl) ?_
      refine wk 25 (by kernel_rfl) ?_
      refine wk 26 (by kernel_rfl) ?_
      refine wk 27 (by kernel_rfl) ?_
      refine wk 28 (by kernel_rfl) ?_
      refine wk 29 (by kernel_rfl) ?_
      refine wk 30 (by kernel_rfl) ?_
      refine wk 31 (by kernel_rfl) ?_
      refine wk 32 (by kernel_rfl) ?_
      refine wk 33 (by kernel_rfl) ?_
      refine wk 34 (by kernel_rfl) ?_
      refine wk 35 (by kernel_rfl) ?_
      refine wk 36 (by kernel_rfl) ?_
      refine wk 37 (by kernel_rfl) ?_
      refine wk 38 (by kernel_rfl) ?_
      refine wk 39 (by kernel_rfl) ?_
      refine wk 40 (by kernel_rfl) ?_
      refine wk 41 (by kernel_rfl) ?_
      refine wk 42 (by kernel_rfl) ?_
      refine wk 43 (by kernel_rfl) ?_
      refine wk 44 (by kernel_rfl) ?_
      refine wk 45 (by kernel_rfl) ?_
      refine wk 46 (by kernel_rfl) ?_
      refine wk 47 (by kernel_rfl) ?_
      refine wk 48 (by kernel_rfl) ?_
      refine wk 49 (by kernel_rfl) ?_
      refine wk 50 (by kernel_rfl) ?_
      refine wk 51 (by kernel_rfl) ?_
      refine wk 52 (by kernel_rfl) ?_
      refine wk 53 (by kernel_rfl) ?_
      refine wk 54 (by kernel_rfl) ?_
      refine wk 55 (by kernel_rfl) ?_
      refine wk 56 (by kernel_rfl) ?_
      refine wk 57 (by kernel_rfl) ?_
      refine wk 58 (by kernel_rfl) ?_
      refine wk 59 (by kernel_rfl) ?_
      refine wk 60 (by kernel_rfl) ?_
      refine wk 61 (by kernel_rfl) ?_
      refine wk 62 (by kernel_rfl) ?_
      refine wk 63 (by kernel_rfl) ?_
      refine wk 64 (by kernel_rfl) ?_
      refine wk 65 (by kernel_rfl) ?_
      refine wk 66 (by kernel_rfl) ?_
      refine wk 67 (by kernel_rfl) ?_
      refine wv 68 (by kernel_rfl) (fun w1 c1 => (opf (v := .bool false) rfl rfl)) ?_
      exact leaf_q (sub_out 53 _ rfl (by kernel_rfl) ⟨(congrArg Value.bool (by rw [decide_eq_false h840] <;> rfl)), trivial⟩)
    refine xn ?_
    refine cm_condB (by kernel_rfl) rfl (fun h843 => ?_) (fun h843 => ?_)
    ·skip
     refine cm_skip ?_
     refine xn ?_
     refine cm_block ?_
     refine cr ?_
     refine lv 69 (by kernel_rfl) (fun w1 c1 => (om (v := .int .i64 _) rfl)) ?_
     refine lm_ck (fun h844 => ?_)
     refine lv 70 (by kernel_rfl) (fun w1 c1 => (op_sub rfl rfl h844)) ?_
     refine lv 5 (by kernel_rfl) (fun w1 c1 => (oa (v := .int .i64 _) rfl)) ?_
     refine ln ?_
     refine xm_inN ?_
     exact xm_lnext () (sc (by kernel_rfl) rfl (sc (by kernel_rfl) rfl (sc (by kernel_rfl) rfl (sc (by kernel_rfl) rfl sub_nil)))) (hsub [0] (by kernel_rfl) rfl)
    ·skip
     refine cm_exit ?_
     refine xm_thenE ?_
     refine xm_lexit ?_
     refine xm_here ?_
     exact xm_lnext () (sc (by kernel_rfl) rfl (sc (by kernel_rfl) rfl (sc (by kernel_rfl) rfl (sc (by kernel_rfl) rfl sub_nil)))) (hsub [0] (by kernel_rfl) rfl)
   intro s786 u787
   refine cq ?_
   refine cr ?_
   refine lm_slice0 71 (el := 3) (sz := 1) (bytes := 8) (enc := encI) (by kernel_rfl) (by kernel_rfl) ?_
   intro A845 n846 k847 h848
   refine lv 72 (by kernel_rfl) (fun w1 c1 => (om (v := .slice _ _ _) rfl)) ?_
   refine lv 73 (by kernel_rfl) (fun w1 c1 => (om (v := .int .i64 _) rfl)) ?_
   refine lm_ck (fun h849 => ?_)
   refine lv 74 (by kernel_rfl) (fun w1 c1 => (op_sliceFrom (l := s726.1) 1 rfl rfl (by kernel_rfl) (by kernel_rfl) (c1.ownZ 1 rfl) h849.1 h849.2)) ?_
   refine lm_ck (fun h850 => ?_)
   refine lm_append 75 0 (el := 3) (sz := 1) (bytes := 8) (enc := encI) (l2 := (List.drop (Int.toNat s786) s726.1)) (by kernel_rfl) (by kernel_rfl) encI_len encI_one rfl rfl rfl (fun w1 c1 => ((c1.ownZ 1 rfl).drop h849.1 h849.2)) (fun w1 c1 => ((c1.own 1 rfl encI_len).drop (c1.ownZ 1 rfl) h849.1 h849.2)) h850 ?_ (by kernel_rfl)
   intro A851 n852 k853
   refine lv 6 (by kernel_rfl) (fun w1 c1 => (oa (v := .slice _ _ _) rfl)) ?_
   refine ln ?_
   refine xn ?_
   refine cr ?_
   refine lv 76 (by kernel_rfl) (fun w1 c1 => (om (v := .slice _ _ _) rfl)) ?_
   refine lv 77 (by kernel_rfl) (fun w1 c1 => (om (v := .int .i64 _) rfl)) ?_
   refine lv 78 (by kernel_rfl) (fun w1 c1 => (om (v := .int .i64 _) rfl)) ?_
   refine lm_ck (fun h854 => ?_)
   refine lv 79 (by kernel_rfl) (fun w1 c1 => (op_slice3 (l := s726.1) rfl rfl rfl (by kernel_rfl) (by kernel_rfl) ((c1.own 1 rfl encI_len).some_ (c1.ownZ 1 rfl)) (c1.ownZ 1 rfl) h854.1 h854.2)) ?_
   refine lv 80 (by kernel_rfl) (fun w1 c1 => (om (v := .int .i64 _) rfl)) ?_
   refine lm_slice1 81 (el := 3) (sz := 1) (bytes := 8) (enc := encI) s726.2 (by kernel_rfl) (by kernel_rfl) encI_len rfl (by kernel_rfl) ?_
   intro A855 n856 k857 h858
   refine lm_ck (fun h859 => ?_)
   refine lm_ck (fun h860 => ?_)
   refine lm_appendF 82 (el := 3) (sz := 1) (bytes := 8) (enc := encI) (l := (List.take (Int.toNat s786) s726.1)) (l2 := ([s726.2])) (by kernel_rfl) (by kernel_rfl) encI_len rfl (fun w1 c1 => ((c1.ownZ 2 rfl).take3 h854.1 h854.2)) (fun w1 c1 => ((c1.own 2 rfl encI_len).take3 h854.1 h854.2)) rfl (fun w1 c1 => (c1.ownZ 0 rfl)) (fun w1 c1 => (c1.own 0 rfl encI_len)) h859 h860 (by kernel_rfl) ?_
   intro A861 n862 k863
   refine lv 83 (by kernel_rfl) (fun w1 c1 => (om (v := .slice _ _ _) rfl)) ?_
   refine lm_ck (fun h864 => ?_)
   refine lm_append 84 0 (el := 3) (sz := 1) (bytes := 8) (enc := encI) (l2 := (([] : List Int) ++ (List.drop (Int.toNat s786) s726.1))) (by kernel_rfl) (by kernel_rfl) encI_len encI_one rfl rfl rfl (fun w1 c1 => (c1.ownZ 2 rfl)) (fun w1 c1 => (c1.own 2 rfl encI_len)) h864 ?_ (by kernel_rfl)
   intro A865 n866 k867
   refine lv 3 (by kernel_rfl) (fun w1 c1 => (oa (v := .slice _ _ _) rfl)) ?_
   refine ln ?_
   refine xm_inN ?_
   refine xn ?_
   refine cr ?_
   refine lv 12 (by kernel_rfl) (fun w1 c1 => (om (v := .int .i64 _) rfl)) ?_
   refine lm_ck (fun h868 => ?_)
   refine lv 13 (by kernel_rfl) (fun w1 c1 => (op_add rfl rfl h868)) ?_
   refine lv 4 (by kernel_rfl) (fun w1 c1 => (oa (v := .int .i64 _) rfl)) ?_
   refine ln ?_
   exact xm_lnext (A865, n866, k867) (sc (by kernel_rfl) rfl (sc (by kernel_rfl) rfl (sc (by kernel_rfl) rfl sub_nil))) (hsub [0] (by kernel_rfl) rfl)
  ·skip
   refine cm_exit ?_
   refine xm_thenE ?_
   refine xm_lexit ?_
   refine xm_here ?_
   exact xm_lnext (u727.1, u727.2.1, u727.2.2) (sc (by kernel_rfl) rfl sub_nil) (hsub [0] (by kernel_rfl) rfl)
 intro s438 u439
 refine cq ?_
 refine cr ?_
 refine lv 85 (by kernel_rfl) (fun w1 c1 => (om (v := .slice _ _ _) rfl)) ?_
 refine lv 2 (by kernel_rfl) (fun w1 c1 => (oa (v := .slice _ _ _) rfl)) ?_
 refine ln ?_
 refine xn ?_
 refine cm_ret ?_
 exact xm_retT rfl (by kernel_rfl) (show _ = Value.slice _ _ _ from rfl) fun w1 c1 => ⟨(u439.1, u439.2.1, u439.2.2), rfl, hsub [0] (by kernel_rfl) rfl w1 c1⟩
/-- recyclingref18.counting -/
def m_recyclingref18_counting (N : Nat) (p0 : (List ApiEmptying)) (p1 : Int) : Option ((List Int)) :=
 Option.bind (m_recyclingref18_ordered N p0) fun r5 => (andThen
  (loopM (fun (s789 : (List Int) × Int) =>
   (if s789.2 < (List.length r5 : Int) then
    (andThen
     (ck ((0 : Int) ≤ s789.2 ∧ s789.2 < (List.length r5 : Int)) (
      ck ((0 : Int) ≤ (ix r5 s789.2) ∧ (ix r5 s789.2) < (List.length p0 : Int)) (
       (andThen
        (loopM (fun (s924 : Bool × Int) =>
         (if s924.2 < (List.length s789.1 : Int) then
          ck ((0 : Int) ≤ s924.2 ∧ s924.2 < (List.length s789.1 : Int)) (
           ck ((0 : Int) ≤ (ix s789.1 s924.2) ∧ (ix s789.1 s924.2) < (List.length p0 : Int)) (
            ck ((s924.1 && (!(decide ((ix p0 (ix s789.1 s924.2)).Container ≠ (ix p0 (ix r5 s789.2)).Container)))) = true → I64 (((ix p0 (ix r5 s789.2)).At) - ((ix p0 (ix s789.1 s924.2)).At))) (
             ck (I64 (s924.2 + (1 : Int))) (
              some (.next ((s924.1 && ((decide ((ix p0 (ix s789.1 s924.2)).Container ≠ (ix p0 (ix r5 s789.2)).Container)) || (decide (p1 < (((ix p0 (ix r5 s789.2)).At) - ((ix p0 (ix s789.1 s924.2)).At)))))), (s924.2 + (1 : Int))))))))
         else
          some (.done (.next s924.1)))) N ((!((ix p0 (ix r5 s789.2)).Void)), (0 : Int)))
       fun (s902 : Bool) =>
        (if s902 = true then
         ck ((0 : Int) ≤ s789.2 ∧ s789.2 < (List.length r5 : Int)) (
          ck ((List.length s789.1 + List.length ([(ix r5 s789.2)])) * 8 ≤ 140737488355328) (
           some (.next (s789.1 ++ ([(ix r5 s789.2)])))))
        else
         some (.next s789.1))))))
    fun (s867 : (List Int)) =>
     ck (I64 (s789.2 + (1 : Int))) (
      some (.next (s867, (s789.2 + (1 : Int))))))
   else
    some (.done (.next s789.1)))) N (([] : List Int), (0 : Int)))
 fun (s475 : (List Int)) =>
  some (s475))
set_option maxHeartbeats 2000000 in
set_option maxRecDepth 20000 in
theorem m_recyclingref18_counting_ok (N : Nat) (w0 : World) (p0 : (List ApiEmptying)) (p1 : Int) (A_p0 : Option Addr) (n_p0 c_p0 : Nat) (hr_p0 : RdE w0 7 encApiEmptying A_p0 p0) (hz_p0 : SW A_p0 n_p0 c_p0 (List.length p0)) (r : (List Int)) (hr : m_recyclingref18_counting N p0 p1 = some r) :
  Calls Tryz.prog 69 [.slice A_p0 n_p0 c_p0, .int .i64 p1].toArray w0 fun x w1 => ∃ u, x = .returned ((fun (_r : (List Int)) (u : (Option Addr) × Nat × Nat) => .slice u.1 u.2.1 u.2.2) r u) ∧ Hs w0 ((fun (r : (List Int)) (u : (Option Addr) × Nat × Nat) => [ownE 3 1 encI u.1 u.2.1 u.2.2 r]) r u) w1 := by
 refine calls_cm (n := 69) (R := fun r x w1 => ∃ u, x = .returned ((fun (_r : (List Int)) (u : (Option Addr) × Nat × Nat) => .slice u.1 u.2.1 u.2.2) r u) ∧ Hs w0 ((fun (r : (List Int)) (u : (Option Addr) × Nat × Nat) => [ownE 3 1 encI u.1 u.2.1 u.2.2 r]) r u) w1) Tryz.func69 rfl rfl (Nat.le_of_ble_eq_true rfl) ?_ r hr
 unfold m_recyclingref18_counting
 refine cq ?_
 refine cr ?_
 refine lv 4 (by kernel_rfl) (fun w1 c1 => (oa (v := .slice _ _ _) rfl)) ?_
 refine ln ?_
 refine xn ?_
 refine cq ?_
 refine cr ?_
 refine lv 5 (by kernel_rfl) (fun w1 c1 => (oa (v := .slice _ _ _) rfl)) ?_
 refine ln ?_
 refine xn ?_
 refine cq ?_
 refine cr ?_
 refine lv 12 (by kernel_rfl) (fun w1 c1 => (om (v := .slice _ _ _) rfl)) ?_
 refine lm_call 13 (V := (fun (_r : (List Int)) (u : (Option Addr) × Nat × Nat) => .slice u.1 u.2.1 u.2.2)) (HR := (fun (r : (List Int)) (u : (Option Addr) × Nat × Nat) => [ownE 3 1 encI u.1 u.2.1 u.2.2 r])) (by kernel_rfl) (fun w1 => op_call (by kernel_rfl)) (fun r1 hr1 w1 c1 => m_recyclingref18_ordered_ok N w1 p0 A_p0 n_p0 c_p0 (hr_p0.old c1) hz_p0 r1 hr1) ?_
 intro r5 u6
 refine lv 6 (by kernel_rfl) (fun w1 c1 => (oa (v := .slice _ _ _) rfl)) ?_
 refine ln ?_
 refine xn ?_
 refine cm_join (σ := (List Int)) (ξ := (Option Addr) × Nat × Nat) (fun s475 u476 => [(5, .slice u476.1 u476.2.1 u476.2.2)]) (fun s475 u476 => [ownE 3 1 encI u476.1 u476.2.1 u476.2.2 s475]) ?_ ?_
 ·skip
  refine cq ?_
  refine cr ?_
  refine lv 7 (by kernel_rfl) (fun w1 c1 => (oa (v := .int .i64 _) rfl)) ?_
  refine ln ?_
  refine xn ?_
  refine cm_block ?_
  refine cm_nilrow 3 1 encI ?_
  refine cm_loop (σ := (List Int) × Int) (ξ := (Option Addr) × Nat × Nat) (fun s789 u790 => [(0, .slice A_p0 n_p0 c_p0), (1, .int .i64 p1), (5, .slice u790.1 u790.2.1 u790.2.2), (6, .slice u6.1 u6.2.1 u6.2.2), (7, .int .i64 s789.2)]) (fun s789 u790 => [ownE 3 1 encI u790.1 u790.2.1 u790.2.2 s789.1, ownE 3 1 encI u6.1 u6.2.1 u6.2.2 r5]) (none, 0, 0) ?_ ?_ ?_
  ·exact (sc (by kernel_rfl) rfl (sc (by kernel_rfl) rfl (sc (by kernel_rfl) rfl (sc (by kernel_rfl) rfl (sc (by kernel_rfl) rfl sub_nil)))))
  ·exact hsub [0, 1] (by kernel_rfl) rfl
  intro s789 u790
  refine cq ?_
  refine cq ?_
  refine cr ?_
  refine lv 14 (by kernel_rfl) (fun w1 c1 => (om (v := .int .i64 _) rfl)) ?_
  refine lv 15 (by kernel_rfl) (fun w1 c1 => (om (v := .slice _ _ _) rfl)) ?_
  refine lv 16 (by kernel_rfl) (fun w1 c1 => (op_lenN rfl (by kernel_rfl) (c1.ownZ 1 rfl).2.2)) ?_
  refine lv 17 (by kernel_rfl) (fun w1 c1 => (op_lss rfl rfl)) ?_
  refine ln ?_
  refine xn ?_
  refine cm_cond (by kernel_rfl) rfl (fun h791 => ?_) (fun h791 => ?_)
  ·skip
   refine cm_skip ?_
   refine xn ?_
   refine cm_join (σ := (List Int)) (ξ := (Option Addr) × Nat × Nat) (fun s867 u868 => [(0, .slice A_p0 n_p0 c_p0), (1, .int .i64 p1), (5, .slice u868.1 u868.2.1 u868.2.2), (6, .slice u6.1 u6.2.1 u6.2.2), (7, .int .i64 s789.2)]) (fun s867 u868 => [ownE 3 1 encI u868.1 u868.2.1 u868.2.2 s867, ownE 3 1 encI u6.1 u6.2.1 u6.2.2 r5]) ?_ ?_
   ·skip
    refine cm_block ?_
    refine cq ?_
    refine cr ?_
    refine lv 20 (by kernel_rfl) (fun w1 c1 => (om (v := .slice _ _ _) rfl)) ?_
    refine lv 21 (by kernel_rfl) (fun w1 c1 => (om (v := .slice _ _ _) rfl)) ?_
    refine lv 22 (by kernel_rfl) (fun w1 c1 => (om (v := .int .i64 _) rfl)) ?_
    refine lm_ck (fun h869 => ?_)
    refine lv 23 (by kernel_rfl) (fun w1 c1 => (op_indexA 1 rfl rfl (by kernel_rfl) ((c1.own 1 rfl encI_len).addr h869.1 h869.2) (c1.ownZ 1 rfl).2.2 h869.1 h869.2)) ?_
    refine lv 24 (by kernel_rfl) (fun w1 c1 => (ol (v := .int .i64 (ix r5 s789.2)) rfl (by kernel_rfl) ((c1.own 1 rfl encI_len).cell0 h869.1 h869.2 rfl))) ?_
    refine lm_ck (fun h870 => ?_)
    refine lv 25 (by kernel_rfl) (fun w1 c1 => (op_indexA 7 rfl rfl (by kernel_rfl) ((hr_p0.old c1).addr h870.1 h870.2) hz_p0.2.2 h870.1 h870.2)) ?_
    refine lv 26 (by kernel_rfl) (fun w1 c1 => (op_loadR [.int .i64 ((ix p0 (ix r5 s789.2)).ID), .int .i64 ((ix p0 (ix r5 s789.2)).Container), .int .i64 ((ix p0 (ix r5 s789.2)).Vehicle), .int .i64 ((ix p0 (ix r5 s789.2)).At), .int .i64 ((ix p0 (ix r5 s789.2)).Mass.Lo), .int .i64 ((ix p0 (ix r5 s789.2)).Mass.Hi), .bool ((ix p0 (ix r5 s789.2)).Void)] rfl (by kernel_rfl) ((hr_p0.old c1).row h870.1 h870.2))) ?_
    refine lm_alloc 8 [.int .i64 0, .int .i64 0, .int .i64 0, .int .i64 0, .int .i64 0, .int .i64 0, .bool false] (v := .agg #[.int .i64 0, .int .i64 0, .int .i64 0, .int .i64 0, .int .i64 0, .int .i64 0, .bool false]) (by kernel_rfl) (by kernel_rfl) rfl ?_
    intro b871
    refine lm_storeA 0 [.int .i64 _, .int .i64 _, .int .i64 _, .int .i64 _, .int .i64 _, .int .i64 _, .bool _] [_, _, _, _, _, _, _] (H' := [blkE _ _ [_, _, _, _, _, _, _], _, _]) (by kernel_rfl) rfl rfl (by kernel_rfl) rfl rfl (by kernel_rfl) rfl rfl ?_
    refine ln ?_
    refine xn ?_
    refine cq ?_
    refine cr ?_
    refine lv 27 (by kernel_rfl) (fun w1 c1 => (oF (m := 6) (k := 6) rfl (by kernel_rfl) rfl)) ?_
    refine lv 28 (by kernel_rfl) (fun w1 c1 => (ol rfl (by kernel_rfl) (c1.cell 0 (u := .bool _) rfl rfl))) ?_
    refine lv 29 (by kernel_rfl) (fun w1 c1 => (op_not rfl)) ?_
    refine lv 9 (by kernel_rfl) (fun w1 c1 => (oa (v := .bool _) rfl)) ?_
    refine ln ?_
    refine xn ?_
    refine cm_join (σ := Bool) (ξ := Unit) (fun s902 u903 => [(0, .slice A_p0 n_p0 c_p0), (1, .int .i64 p1), (5, .slice u790.1 u790.2.1 u790.2.2), (6, .slice u6.1 u6.2.1 u6.2.2), (7, .int .i64 s789.2), (9, .bool s902)]) (fun s902 u903 => [ownE 3 1 encI u790.1 u790.2.1 u790.2.2 s789.1, ownE 3 1 encI u6.1 u6.2.1 u6.2.2 r5]) ?_ ?_
    ·skip
     refine cq ?_
     refine cr ?_
     refine lv 10 (by kernel_rfl) (fun w1 c1 => (oa (v := .int .i64 _) rfl)) ?_
     refine ln ?_
     refine xn ?_
     refine cm_block ?_
     refine cm_loop (σ := Bool × Int) (ξ := Unit) (fun s924 u925 => [(0, .slice A_p0 n_p0 c_p0), (1, .int .i64 p1), (5, .slice u790.1 u790.2.1 u790.2.2), (6, .slice u6.1 u6.2.1 u6.2.2), (7, .int .i64 s789.2), (8, .pointer (some ⟨b871, 0, none⟩)), (9, .bool s924.1), (10, .int .i64 s924.2)]) (fun s924 u925 => [ownE 3 1 encI u790.1 u790.2.1 u790.2.2 s789.1, ownE 3 1 encI u6.1 u6.2.1 u6.2.2 r5, blkE b871 55 [.int .i64 ((ix p0 (ix r5 s789.2)).ID), .int .i64 ((ix p0 (ix r5 s789.2)).Container), .int .i64 ((ix p0 (ix r5 s789.2)).Vehicle), .int .i64 ((ix p0 (ix r5 s789.2)).At), .int .i64 ((ix p0 (ix r5 s789.2)).Mass.Lo), .int .i64 ((ix p0 (ix r5 s789.2)).Mass.Hi), .bool ((ix p0 (ix r5 s789.2)).Void)]]) () ?_ ?_ ?_
     ·exact (sc (by kernel_rfl) rfl (sc (by kernel_rfl) rfl (sc (by kernel_rfl) rfl (sc (by kernel_rfl) rfl (sc (by kernel_rfl) rfl (sc (by kernel_rfl) rfl (sc (by kernel_rfl) rfl (sc (by kernel_rfl) rfl sub_nil))))))))
     ·exact hsub [1, 2, 0] (by kernel_rfl) rfl
     intro s924 u925
     refine cq ?_
     refine cq ?_
     refine cr ?_
     refine lv 30 (by kernel_rfl) (fun w1 c1 => (om (v := .int .i64 _) rfl)) ?_
     refine lv 31 (by kernel_rfl) (fun w1 c1 => (om (v := .slice _ _ _) rfl)) ?_
     refine lv 32 (by kernel_rfl) (fun w1 c1 => (op_lenN rfl (by kernel_rfl) (c1.ownZ 0 rfl).2.2)) ?_
     refine lv 33 (by kernel_rfl) (fun w1 c1 => (op_lss rfl rfl)) ?_
     refine ln ?_
     refine xn ?_
     refine cm_cond (by kernel_rfl) rfl (fun h926 => ?_) (fun h926 => ?_)
     ·skip
      refine cm_skip ?_
      refine xn ?_
      refine cq ?_
      refine cm_block ?_
      refine cq ?_
      refine cr ?_
      refine lv 36 (by kernel_rfl) (fun w1 c1 => (om (v := .slice _ _ _) rfl)) ?_
      refine lv 37 (by kernel_rfl) (fun w1 c1 => (om (v := .slice _ _ _) rfl)) ?_
      refine lv 38 (by kernel_rfl) (fun w1 c1 => (om (v := .int .i64 _) rfl)) ?_
      refine lm_ck (fun h927 => ?_)
      refine lv 39 (by kernel_rfl) (fun w1 c1 => (op_indexA 1 rfl rfl (by kernel_rfl) ((c1.own 0 rfl encI_len).addr h927.1 h927.2) (c1.ownZ 0 rfl).2.2 h927.1 h927.2)) ?_
      refine lv 40 (by kernel_rfl) (fun w1 c1 => (ol (v := .int .i64 (ix s789.1 s924.2)) rfl (by kernel_rfl) ((c1.own 0 rfl encI_len).cell0 h927.1 h927.2 rfl))) ?_
      refine lm_ck (fun h928 => ?_)
      refine lv 41 (by kernel_rfl) (fun w1 c1 => (op_indexA 7 rfl rfl (by kernel_rfl) ((hr_p0.old c1).addr h928.1 h928.2) hz_p0.2.2 h928.1 h928.2)) ?_
      refine lv 42 (by kernel_rfl) (fun w1 c1 => (op_loadR [.int .i64 ((ix p0 (ix s789.1 s924.2)).ID), .int .i64 ((ix p0 (ix s789.1 s924.2)).Container), .int .i64 ((ix p0 (ix s789.1 s924.2)).Vehicle), .int .i64 ((ix p0 (ix s789.1 s924.2)).At), .int .i64 ((ix p0 (ix s789.1 s924.2)).Mass.Lo), .int .i64 ((ix p0 (ix s789.1 s924.2)).Mass.Hi), .bool ((ix p0 (ix s789.1 s924.2)).Void)] rfl (by kernel_rfl) ((hr_p0.old c1).row h928.1 h928.2))) ?_
      refine lm_alloc 11 [.int .i64 0, .int .i64 0, .int .i64 0, .int .i64 0, .int .i64 0, .int .i64 0, .bool false] (v := .agg #[.int .i64 0, .int .i64 0, .int .i64 0, .int .i64 0, .int .i64 0, .int .i64 0, .bool false]) (by kernel_rfl) (by kernel_rfl) rfl ?_
      intro b929
      refine lm_storeA 0 [.int .i64 _, .int .i64 _, .int .i64 _, .int .i64 _, .int .i64 _, .int .i64 _, .bool _] [_, _, _, _, _, _, _] (H' := [blkE _ _ [_, _, _, _, _, _, _], _, _, _]) (by kernel_rfl) rfl rfl (by kernel_rfl) rfl rfl (by kernel_rfl) rfl rfl ?_
      refine ln ?_
      refine xn ?_
      refine cm_ck (fun h930 => ?_)
      refine cm_of_then ?_
      refine cm_cutE [(9, .bool (s924.1 && ((decide ((ix p0 (ix s789.1 s924.2)).Container ≠ (ix p0 (ix r5 s789.2)).Container)) || (decide (p1 < (((ix p0 (ix r5 s789.2)).At) - ((ix p0 (ix s789.1 s924.2)).At)))))))] ?_ ?_
      ·skip
       refine wq_bool 43 (by kernel_rfl) (fun w1 c1 => (om (v := .bool _) rfl)) (fun h931 => ?_) (fun h931 => ?_)
       ·skip
        refine wv 44 (by kernel_rfl) (fun w1 c1 => (om (v := .bool true) rfl)) ?_
        refine wv 45 (by kernel_rfl) (fun w1 c1 => (oF (m := 1) (k := 1) rfl (by kernel_rfl) rfl)) ?_
        refine wv 46 (by kernel_rfl) (fun w1 c1 => (ol rfl (by kernel_rfl) (c1.cell 0 (u := .int .i64 _) rfl rfl))) ?_
        refine wv 47 (by kernel_rfl) (fun w1 c1 => (oF (m := 1) (k := 1) rfl (by kernel_rfl) rfl)) ?_
        refine wv 48 (by kernel_rfl) (fun w1 c1 => (ol rfl (by kernel_rfl) (c1.cell 3 (u := .int .i64 _) rfl rfl))) ?_
        refine wq_dec 49 (by kernel_rfl) (fun w1 c1 => (op_neq rfl rfl)) (fun h932 => ?_) (fun h932 => ?_)
        ·skip
         refine wv 50 (by kernel_rfl) (fun w1 c1 => (om (v := .bool true) rfl)) ?_
         refine wk 51 (by kernel_rfl) ?_
         refine wk 52 (by kernel_rfl) ?_
         refine wk 53 (by kernel_rfl) ?_
         refine wk 54 (by kernel_rfl) ?_
         refine wk 55 (by kernel_rfl) ?_
         refine wk 56 (by kernel_rfl) ?_
         refine wk 57 (by kernel_rfl) ?_
         refine wv 58 (by kernel_rfl) (fun w1 c1 => (opt (v := .bool true) rfl rfl)) ?_
         refine wv 59 (by kernel_rfl) (fun w1 c1 => (opt (v := .bool true) rfl rfl)) ?_
         refine wv 9 (by kernel_rfl) (fun w1 c1 => (oa (v := .bool true) rfl)) ?_
         exact leaf_q (sub_out 18 _ rfl (by kernel_rfl) ⟨(congrArg Value.bool (by rw [h931, decide_eq_true h932] <;> rfl)), trivial⟩)
        ·skip
         refine wv 50 (by kernel_rfl) (fun w1 c1 => (om (v := .bool false) rfl)) ?_
         refine wv 51 (by kernel_rfl) (fun w1 c1 => (oF (m := 3) (k := 3) rfl (by kernel_rfl) rfl)) ?_
         refine wv 52 (by kernel_rfl) (fun w1 c1 => (ol rfl (by kernel_rfl) (c1.cell 3 (u := .int .i64 _) rfl rfl))) ?_
         refine wv 53 (by kernel_rfl) (fun w1 c1 => (oF (m := 3) (k := 3) rfl (by kernel_rfl) rfl)) ?_
         refine wv 54 (by kernel_rfl) (fun w1 c1 => (ol rfl (by kernel_rfl) (c1.cell 0 (u := .int .i64 _) rfl rfl))) ?_
         refine wv 55 (by kernel_rfl) (fun w1 c1 => (op_sub rfl rfl (h930 (by rw [h931, decide_eq_false h932] <;> rfl)))) ?_
         refine wv 56 (by kernel_rfl) (fun w1 c1 => (om (v := .int .i64 _) rfl)) ?_
         refine wv 57 (by kernel_rfl) (fun w1 c1 => (op_gtr rfl rfl)) ?_
         refine wv 58 (by kernel_rfl) (fun w1 c1 => (opf (v := .bool _) rfl rfl)) ?_
         refine wv 59 (by kernel_rfl) (fun w1 c1 => (opt (v := .bool _) rfl rfl)) ?_
         refine wv 9 (by kernel_rfl) (fun w1 c1 => (oa (v := .bool _) rfl)) ?_
         exact leaf_q (sub_out 18 _ rfl (by kernel_rfl) ⟨(congrArg Value.bool (by rw [h931, decide_eq_false h932] <;> rfl)), trivial⟩)
       ·skip
        refine wv 44 (by kernel_rfl) (fun w1 c1 => (om (v := .bool false) rfl)) ?_
        refine wk 45 (by kernel_rfl) ?_
        refine wk 46 (by kernel_rfl) ?_
        refine wk 47 (by kernel_rfl) ?_
        refine wk 48 (by kernel_rfl) ?_
        refine wk 49 (by kernel_rfl) ?_
        refine wk 50 (by kernel_rfl) ?_
        refine wk 51 (by kernel_rfl) ?_
        refine wk 52 (by kernel_rfl) ?_
        refine wk 53 (by kernel_rfl) ?_
        refine wk 54 (by kernel_rfl) ?_
        refine wk 55 (by kernel_rfl) ?_
        refine wk 56 (by kernel_rfl) ?_
        refine wk 57 (by kernel_rfl) ?_
        refine wk 58 (by kernel_rfl) ?_
        refine wv 59 (by kernel_rfl) (fun w1 c1 => (opf (v := .bool false) rfl rfl)) ?_
        refine wv 9 (by kernel_rfl) (fun w1 c1 => (oa (v := .bool false) rfl)) ?_
        exact leaf_q (sub_out 18 _ rfl (by kernel_rfl) ⟨(congrArg Value.bool (by rw [h931] <;> rfl)), trivial⟩)
      refine xm_of_then ?_
      refine xm_inN ?_
      refine xn ?_
      refine cr ?_
      refine lv 34 (by kernel_rfl) (fun w1 c1 => (om (v := .int .i64 _) rfl)) ?_
      refine lm_ck (fun h933 => ?_)
      refine lv 35 (by kernel_rfl) (fun w1 c1 => (op_add rfl rfl h933)) ?_
      refine lv 10 (by kernel_rfl) (fun w1 c1 => (oa (v := .int .i64 _) rfl)) ?_
      refine ln ?_
      exact xm_lnext () (sc (by kernel_rfl) rfl (sc (by kernel_rfl) rfl (sc (by kernel_rfl) rfl (sc (by kernel_rfl) rfl (sc (by kernel_rfl) rfl (sc (by kernel_rfl) rfl (sc (by kernel_rfl) rfl (sc (by kernel_rfl) rfl sub_nil)))))))) (hsub [1, 2, 3] (by kernel_rfl) rfl)
     ·skip
      refine cm_exit ?_
      refine xm_thenE ?_
      refine xm_lexit ?_
      refine xm_here ?_
      exact xm_lnext () (sc (by kernel_rfl) rfl (sc (by kernel_rfl) rfl (sc (by kernel_rfl) rfl (sc (by kernel_rfl) rfl (sc (by kernel_rfl) rfl (sc (by kernel_rfl) rfl sub_nil)))))) (hsub [0, 1] (by kernel_rfl) rfl)
    intro s902 u903
    refine cq ?_
    refine cr ?_
    refine lv 60 (by kernel_rfl) (fun w1 c1 => (om (v := .bool _) rfl)) ?_
    refine ln ?_
    refine xn ?_
    refine cm_condB (by kernel_rfl) rfl (fun h934 => ?_) (fun h934 => ?_)
    ·skip
     refine cr ?_
     refine lv 61 (by kernel_rfl) (fun w1 c1 => (om (v := .slice _ _ _) rfl)) ?_
     refine lv 62 (by kernel_rfl) (fun w1 c1 => (om (v := .slice _ _ _) rfl)) ?_
     refine lv 63 (by kernel_rfl) (fun w1 c1 => (om (v := .int .i64 _) rfl)) ?_
     refine lm_ck (fun h935 => ?_)
     refine lv 64 (by kernel_rfl) (fun w1 c1 => (op_indexA 1 rfl rfl (by kernel_rfl) ((c1.own 1 rfl encI_len).addr h935.1 h935.2) (c1.ownZ 1 rfl).2.2 h935.1 h935.2)) ?_
     refine lv 65 (by kernel_rfl) (fun w1 c1 => (ol (v := .int .i64 (ix r5 s789.2)) rfl (by kernel_rfl) ((c1.own 1 rfl encI_len).cell0 h935.1 h935.2 rfl))) ?_
     refine lm_slice1 66 (el := 3) (sz := 1) (bytes := 8) (enc := encI) (ix r5 s789.2) (by kernel_rfl) (by kernel_rfl) encI_len rfl (by kernel_rfl) ?_
     intro A936 n937 k938 h939
     refine lm_ck (fun h940 => ?_)
     refine lm_append 67 1 (el := 3) (sz := 1) (bytes := 8) (enc := encI) (l2 := ([(ix r5 s789.2)])) (by kernel_rfl) (by kernel_rfl) encI_len encI_one rfl rfl rfl (fun w1 c1 => (c1.ownZ 0 rfl)) (fun w1 c1 => (c1.own 0 rfl encI_len)) h940 ?_ (by kernel_rfl)
     intro A941 n942 k943
     refine lv 5 (by kernel_rfl) (fun w1 c1 => (oa (v := .slice _ _ _) rfl)) ?_
     refine ln ?_
     refine xm_inN ?_
     exact xm_lnext (A941, n942, k943) (sc (by kernel_rfl) rfl (sc (by kernel_rfl) rfl (sc (by kernel_rfl) rfl (sc (by kernel_rfl) rfl (sc (by kernel_rfl) rfl sub_nil))))) (hsub [1, 2] (by kernel_rfl) rfl)
    ·skip
     refine cm_skip ?_
     refine xm_inN ?_
     exact xm_lnext (u790.1, u790.2.1, u790.2.2) (sc (by kernel_rfl) rfl (sc (by kernel_rfl) rfl (sc (by kernel_rfl) rfl (sc (by kernel_rfl) rfl (sc (by kernel_rfl) rfl sub_nil))))) (hsub [0, 1] (by kernel_rfl) rfl)
   intro s867 u868
   refine cr ?_
   refine lv 18 (by kernel_rfl) (fun w1 c1 => (om (v := .int .i64 _) rfl)) ?_
   refine lm_ck (fun h944 => ?_)
   refine lv 19 (by kernel_rfl) (fun w1 c1 => (op_add rfl rfl h944)) ?_
   refine lv 7 (by kernel_rfl) (fun w1 c1 => (oa (v := .int .i64 _) rfl)) ?_
   refine ln ?_
   exact xm_lnext (u868.1, u868.2.1, u868.2.2) (sc (by kernel_rfl) rfl (sc (by kernel_rfl) rfl (sc (by kernel_rfl) rfl (sc (by kernel_rfl) rfl (sc (by kernel_rfl) rfl sub_nil))))) (hsub [0, 1] (by kernel_rfl) rfl)
  ·skip
   refine cm_exit ?_
   refine xm_thenE ?_
   refine xm_lexit ?_
   refine xm_here ?_
   exact xm_lnext (u790.1, u790.2.1, u790.2.2) (sc (by kernel_rfl) rfl sub_nil) (hsub [0] (by kernel_rfl) rfl)
 intro s475 u476
 refine cq ?_
 refine cr ?_
 refine lv 68 (by kernel_rfl) (fun w1 c1 => (om (v := .slice _ _ _) rfl)) ?_
 refine lv 4 (by kernel_rfl) (fun w1 c1 => (oa (v := .slice _ _ _) rfl)) ?_
 refine ln ?_
 refine xn ?_
 refine cm_ret ?_
 exact xm_retT rfl (by kernel_rfl) (show _ = Value.slice _ _ _ from rfl) fun w1 c1 => ⟨(u476.1, u476.2.1, u476.2.2), rfl, hsub [0] (by kernel_rfl) rfl w1 c1⟩
/-- recyclingref18.Counts -/
def m_recyclingref18_Counts (N : Nat) (p0 : (List ApiEmptying)) (p1 : Int) : Option ((List Int) × Int) :=
 Option.bind (m_recyclingref18_Check N p0 (256 : Int) (16 : Int)) fun r5 => (if r5 ≠ 0 then
  some ((([] : List Int), r5))
 else
  (if ((decide (p1 < 0)) || (decide (86400 < p1))) = true then
   some ((([] : List Int), (1 : Int)))
  else
   Option.bind (m_recyclingref18_counting N p0 p1) fun r10 => some ((r10, (0 : Int)))))
set_option maxRecDepth 20000 in
theorem m_recyclingref18_Counts_ok (N : Nat) (w0 : World) (p0 : (List ApiEmptying)) (p1 : Int) (A_p0 : Option Addr) (n_p0 c_p0 : Nat) (hr_p0 : RdE w0 7 encApiEmptying A_p0 p0) (hz_p0 : SW A_p0 n_p0 c_p0 (List.length p0)) (r : (List Int) × Int) (hr : m_recyclingref18_Counts N p0 p1 = some r) :
  Calls Tryz.prog 60 [.slice A_p0 n_p0 c_p0, .int .i64 p1].toArray w0 fun x w1 => ∃ u, x = .returned ((fun (r : (List Int) × Int) (u : (Option Addr) × Nat × Nat) => .tuple #[.slice u.1 u.2.1 u.2.2, .int .i64 r.2]) r u) ∧ Hs w0 ((fun (r : (List Int) × Int) (u : (Option Addr) × Nat × Nat) => [ownE 3 1 encI u.1 u.2.1 u.2.2 r.1]) r u) w1 := by
 refine calls_cm (n := 21) (R := fun r x w1 => ∃ u, x = .returned ((fun (r : (List Int) × Int) (u : (Option Addr) × Nat × Nat) => .tuple #[.slice u.1 u.2.1 u.2.2, .int .i64 r.2]) r u) ∧ Hs w0 ((fun (r : (List Int) × Int) (u : (Option Addr) × Nat × Nat) => [ownE 3 1 encI u.1 u.2.1 u.2.2 r.1]) r u) w1) Tryz.func60 rfl rfl (Nat.le_of_ble_eq_true rfl) ?_ r hr
 unfold m_recyclingref18_Counts
 refine cq ?_
 refine cr ?_
 refine lv 4 (by kernel_rfl) (fun w1 c1 => (oa (v := .slice _ _ _) rfl)) ?_
 refine lv 5 (by kernel_rfl) (fun w1 c1 => (oa (v := .int .i64 _) rfl)) ?_
 refine ln ?_
 refine xn ?_
 refine cq ?_
 refine cq ?_
 refine cr ?_
 refine lv 7 (by kernel_rfl) (fun w1 c1 => (om (v := .slice _ _ _) rfl)) ?_
 refine lm_call 8 (V := (fun (r : Int) (_u : Unit) => .int .i64 r)) (HR := (fun (_r : Int) (_u : Unit) => [])) (by kernel_rfl) (fun w1 => op_call (by kernel_rfl)) (fun r1 hr1 w1 c1 => m_recyclingref18_Check_ok N w1 p0 (256 : Int) (16 : Int) A_p0 n_p0 c_p0 (hr_p0.old c1) hz_p0 r1 hr1) ?_
 intro r5 u6
 refine lv 6 (by kernel_rfl) (fun w1 c1 => (oa (v := .int .i64 _) rfl)) ?_
 refine ln ?_
 refine xn ?_
 refine cq ?_
 refine cr ?_
 refine lv 9 (by kernel_rfl) (fun w1 c1 => (om (v := .int .i64 _) rfl)) ?_
 refine lv 10 (by kernel_rfl) (fun w1 c1 => (op_neq rfl rfl)) ?_
 refine ln ?_
 refine xn ?_
 refine cm_cond (by kernel_rfl) rfl (fun h7 => ?_) (fun h7 => ?_)
 ·skip
  refine cq ?_
  refine cr ?_
  refine lv 11 (by kernel_rfl) (fun w1 c1 => (om (v := .int .i64 _) rfl)) ?_
  refine lv 4 (by kernel_rfl) (fun w1 c1 => (oa (v := .slice _ _ _) rfl)) ?_
  refine lv 5 (by kernel_rfl) (fun w1 c1 => (oa (v := .int .i64 _) rfl)) ?_
  refine ln ?_
  refine xn ?_
  refine cm_ret ?_
  refine xm_thenR ?_
  refine xm_nilrow 3 1 encI ?_
  exact xm_retTT rfl (by kernel_rfl) (show _ = Value.slice _ _ _ from rfl) (by kernel_rfl) (show _ = Value.int .i64 _ from rfl) fun w1 c1 => ⟨(none, 0, 0), rfl, hsub [0] (by kernel_rfl) rfl w1 c1⟩
 ·skip
  refine cm_skip ?_
  refine xn ?_
  refine cq ?_
  refine cq ?_
  refine cm_cutE [(17, .bool ((decide (p1 < 0)) || (decide (86400 < p1))))] ?_ ?_
  ·skip
   refine wv 12 (by kernel_rfl) (fun w1 c1 => (om (v := .int .i64 _) rfl)) ?_
   refine wq_dec 13 (by kernel_rfl) (fun w1 c1 => (op_lss rfl rfl)) (fun h8 => ?_) (fun h8 => ?_)
   ·skip
    refine wv 14 (by kernel_rfl) (fun w1 c1 => (om (v := .bool true) rfl)) ?_
    refine wk 15 (by kernel_rfl) ?_
    refine wk 16 (by kernel_rfl) ?_
    refine wv 17 (by kernel_rfl) (fun w1 c1 => (opt (v := .bool true) rfl rfl)) ?_
    exact leaf_q (sub_out 6 _ rfl (by kernel_rfl) ⟨(congrArg Value.bool (by rw [decide_eq_true h8] <;> rfl)), trivial⟩)
   ·skip
    refine wv 14 (by kernel_rfl) (fun w1 c1 => (om (v := .bool false) rfl)) ?_
    refine wv 15 (by kernel_rfl) (fun w1 c1 => (om (v := .int .i64 _) rfl)) ?_
    refine wv 16 (by kernel_rfl) (fun w1 c1 => (op_gtr rfl rfl)) ?_
    refine wv 17 (by kernel_rfl) (fun w1 c1 => (opf (v := .bool _) rfl rfl)) ?_
    exact leaf_q (sub_out 6 _ rfl (by kernel_rfl) ⟨(congrArg Value.bool (by rw [decide_eq_false h8] <;> rfl)), trivial⟩)
  refine xn ?_
  refine cm_condB (by kernel_rfl) rfl (fun h9 => ?_) (fun h9 => ?_)
  ·skip
   refine cq ?_
   refine cr ?_
   refine lv 4 (by kernel_rfl) (fun w1 c1 => (oa (v := .slice _ _ _) rfl)) ?_
   refine lv 5 (by kernel_rfl) (fun w1 c1 => (oa (v := .int .i64 _) rfl)) ?_
   refine ln ?_
   refine xn ?_
   refine cm_ret ?_
   refine xm_thenR ?_
   refine xm_nilrow 3 1 encI ?_
   exact xm_retTT rfl (by kernel_rfl) (show _ = Value.slice _ _ _ from rfl) (by kernel_rfl) (show _ = Value.int .i64 _ from rfl) fun w1 c1 => ⟨(none, 0, 0), rfl, hsub [0] (by kernel_rfl) rfl w1 c1⟩
  ·skip
   refine cm_skip ?_
   refine xn ?_
   refine cq ?_
   refine cr ?_
   refine lv 18 (by kernel_rfl) (fun w1 c1 => (om (v := .slice _ _ _) rfl)) ?_
   refine lv 19 (by kernel_rfl) (fun w1 c1 => (om (v := .int .i64 _) rfl)) ?_
   refine lm_call 20 (V := (fun (_r : (List Int)) (u : (Option Addr) × Nat × Nat) => .slice u.1 u.2.1 u.2.2)) (HR := (fun (r : (List Int)) (u : (Option Addr) × Nat × Nat) => [ownE 3 1 encI u.1 u.2.1 u.2.2 r])) (by kernel_rfl) (fun w1 => op_call (by kernel_rfl)) (fun r1 hr1 w1 c1 => m_recyclingref18_counting_ok N w1 p0 p1 A_p0 n_p0 c_p0 (hr_p0.old c1) hz_p0 r1 hr1) ?_
   intro r10 u11
   refine lv 4 (by kernel_rfl) (fun w1 c1 => (oa (v := .slice _ _ _) rfl)) ?_
   refine lv 5 (by kernel_rfl) (fun w1 c1 => (oa (v := .int .i64 _) rfl)) ?_
   refine ln ?_
   refine xn ?_
   refine cm_ret ?_
   exact xm_retTT rfl (by kernel_rfl) (show _ = Value.slice _ _ _ from rfl) (by kernel_rfl) (show _ = Value.int .i64 _ from rfl) fun w1 c1 => ⟨(u11.1, u11.2.1, u11.2.2), rfl, hsub [0] (by kernel_rfl) rfl w1 c1⟩
end Go.Proofs.YtljogldcejcikaaGreat
