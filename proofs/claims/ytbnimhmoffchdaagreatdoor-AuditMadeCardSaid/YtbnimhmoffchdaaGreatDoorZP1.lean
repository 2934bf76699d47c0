/- Models of functions, and that the code follows them. Written by deco.py. -/
import Derived.Test.YtbnimhmoffchdaaGreatDoorKD
import Derived.Test.YtbnimhmoffchdaaGreatDoorKC
import Derived.Test.YtbnimhmoffchdaaGreatDoorShelf
import Derived.Test.YtbnimhmoffchdaaGreatDoorDHeldIx
namespace Go.Proofs.YtbnimhmoffchdaaGreatDoor
open Go.RowKit
set_option linter.unusedSectionVars false
variable [JF]

structure ApiHousehold where
 ID : ByteArray
 Persons : Int
deriving DecidableEq, Inhabited
def encApiHousehold (x : ApiHousehold) : List Value := [.string x.ID, .int .i64 x.Persons]
def valApiHousehold (x : ApiHousehold) : Value := .agg #[.string x.ID, .int .i64 x.Persons]
theorem encApiHousehold_len (x : ApiHousehold) : (encApiHousehold x).length = 2 := rfl
theorem encApiHousehold_one (x : ApiHousehold) : (encApiHousehold x).all Value.oneCell' = true := rfl
structure ApiContainer where
 ID : ByteArray
 Kind : Int
 Litres : Int
 Grams : Int
 Node : Int
deriving DecidableEq, Inhabited
def encApiContainer (x : ApiContainer) : List Value := [.string x.ID, .int .i64 x.Kind, .int .i64 x.Litres, .int .i64 x.Grams, .int .i64 x.Node]
def valApiContainer (x : ApiContainer) : Value := .agg #[.string x.ID, .int .i64 x.Kind, .int .i64 x.Litres, .int .i64 x.Grams, .int .i64 x.Node]
theorem encApiContainer_len (x : ApiContainer) : (encApiContainer x).length = 5 := rfl
theorem encApiContainer_one (x : ApiContainer) : (encApiContainer x).all Value.oneCell' = true := rfl
structure ApiWindow where
 From : Int
 To : Int
deriving DecidableEq, Inhabited
def encApiWindow (x : ApiWindow) : List Value := [.int .i64 x.From, .int .i64 x.To]
def valApiWindow (x : ApiWindow) : Value := .agg #[.int .i64 x.From, .int .i64 x.To]
theorem encApiWindow_len (x : ApiWindow) : (encApiWindow x).length = 2 := rfl
theorem encApiWindow_one (x : ApiWindow) : (encApiWindow x).all Value.oneCell' = true := rfl
structure ApiAssign where
 Container : Int
 Household : Int
 When : ApiWindow
deriving DecidableEq, Inhabited
def encApiAssign (x : ApiAssign) : List Value := [.int .i64 x.Container, .int .i64 x.Household, .int .i64 x.When.From, .int .i64 x.When.To]
def valApiAssign (x : ApiAssign) : Value := .agg #[.int .i64 x.Container, .int .i64 x.Household, .int .i64 x.When.From, .int .i64 x.When.To]
theorem encApiAssign_len (x : ApiAssign) : (encApiAssign x).length = 4 := rfl
theorem encApiAssign_one (x : ApiAssign) : (encApiAssign x).all Value.oneCell' = true := rfl
structure ApiSpan where
 Lo : Int
 Hi : Int
deriving DecidableEq, Inhabited
def encApiSpan (x : ApiSpan) : List Value := [.int .i64 x.Lo, .int .i64 x.Hi]
def valApiSpan (x : ApiSpan) : Value := .agg #[.int .i64 x.Lo, .int .i64 x.Hi]
theorem encApiSpan_len (x : ApiSpan) : (encApiSpan x).length = 2 := rfl
theorem encApiSpan_one (x : ApiSpan) : (encApiSpan x).all Value.oneCell' = true := rfl
structure ApiEmptying where
 ID : Int
 Container : Int
 Vehicle : Int
 At : Int
 Mass : ApiSpan
 Void : Bool
deriving DecidableEq, Inhabited
def encApiEmptying (x : ApiEmptying) : List Value := [.int .i64 x.ID, .int .i64 x.Container, .int .i64 x.Vehicle, .int .i64 x.At, .int .i64 x.Mass.Lo, .int .i64 x.Mass.Hi, .bool x.Void]
def valApiEmptying (x : ApiEmptying) : Value := .agg #[.int .i64 x.ID, .int .i64 x.Container, .int .i64 x.Vehicle, .int .i64 x.At, .int .i64 x.Mass.Lo, .int .i64 x.Mass.Hi, .bool x.Void]
theorem encApiEmptying_len (x : ApiEmptying) : (encApiEmptying x).length = 7 := rfl
theorem encApiEmptying_one (x : ApiEmptying) : (encApiEmptying x).all Value.oneCell' = true := rfl
structure ApiTariff where
 From : Int
 Base : Int
 Empty : Int
 Kilo : Int
 Free : Int
deriving DecidableEq, Inhabited
def encApiTariff (x : ApiTariff) : List Value := [.int .i64 x.From, .int .i64 x.Base, .int .i64 x.Empty, .int .i64 x.Kilo, .int .i64 x.Free]
def valApiTariff (x : ApiTariff) : Value := .agg #[.int .i64 x.From, .int .i64 x.Base, .int .i64 x.Empty, .int .i64 x.Kilo, .int .i64 x.Free]
theorem encApiTariff_len (x : ApiTariff) : (encApiTariff x).length = 5 := rfl
theorem encApiTariff_one (x : ApiTariff) : (encApiTariff x).all Value.oneCell' = true := rfl
structure ApiAccount where
 Households : (List ApiHousehold)
 Containers : (List ApiContainer)
 Assigns : (List ApiAssign)
 Emptyings : (List ApiEmptying)
 Tariffs : (List ApiTariff)
 Gap : Int
deriving Inhabited
structure ApiTransfer where
 From : Int
 To : Int
 Mass : ApiSpan
deriving DecidableEq, Inhabited
def encApiTransfer (x : ApiTransfer) : List Value := [.int .i64 x.From, .int .i64 x.To, .int .i64 x.Mass.Lo, .int .i64 x.Mass.Hi]
def valApiTransfer (x : ApiTransfer) : Value := .agg #[.int .i64 x.From, .int .i64 x.To, .int .i64 x.Mass.Lo, .int .i64 x.Mass.Hi]
theorem encApiTransfer_len (x : ApiTransfer) : (encApiTransfer x).length = 4 := rfl
theorem encApiTransfer_one (x : ApiTransfer) : (encApiTransfer x).all Value.oneCell' = true := rfl
structure ApiBale where
 ID : Int
 Material : Int
 At : Int
 Mix : (List Int)
deriving Inhabited
def encApiBale (x : ApiBale) (d1 : Hdr) : List Value := [.int .i64 x.ID, .int .i64 x.Material, .int .i64 x.At, .slice d1.1 d1.2.1 d1.2.2]
structure ApiProduct where
 Code : ByteArray
 Producer : Int
 Deposit : Int
 Material : Int
 Grams : Int
deriving DecidableEq, Inhabited
def encApiProduct (x : ApiProduct) : List Value := [.string x.Code, .int .i64 x.Producer, .int .i64 x.Deposit, .int .i64 x.Material, .int .i64 x.Grams]
def valApiProduct (x : ApiProduct) : Value := .agg #[.string x.Code, .int .i64 x.Producer, .int .i64 x.Deposit, .int .i64 x.Material, .int .i64 x.Grams]
theorem encApiProduct_len (x : ApiProduct) : (encApiProduct x).length = 5 := rfl
theorem encApiProduct_one (x : ApiProduct) : (encApiProduct x).all Value.oneCell' = true := rfl
structure ApiSale where
 Product : Int
 First : Int
 Count : Int
 Retailer : Int
 At : Int
deriving DecidableEq, Inhabited
def encApiSale (x : ApiSale) : List Value := [.int .i64 x.Product, .int .i64 x.First, .int .i64 x.Count, .int .i64 x.Retailer, .int .i64 x.At]
def valApiSale (x : ApiSale) : Value := .agg #[.int .i64 x.Product, .int .i64 x.First, .int .i64 x.Count, .int .i64 x.Retailer, .int .i64 x.At]
theorem encApiSale_len (x : ApiSale) : (encApiSale x).length = 5 := rfl
theorem encApiSale_one (x : ApiSale) : (encApiSale x).all Value.oneCell' = true := rfl
structure ApiClaim where
 Serial : Int
 Machine : Int
 Seq : Int
 At : Int
 Paid : Bool
deriving DecidableEq, Inhabited
def encApiClaim (x : ApiClaim) : List Value := [.int .i64 x.Serial, .int .i64 x.Machine, .int .i64 x.Seq, .int .i64 x.At, .bool x.Paid]
def valApiClaim (x : ApiClaim) : Value := .agg #[.int .i64 x.Serial, .int .i64 x.Machine, .int .i64 x.Seq, .int .i64 x.At, .bool x.Paid]
theorem encApiClaim_len (x : ApiClaim) : (encApiClaim x).length = 5 := rfl
theorem encApiClaim_one (x : ApiClaim) : (encApiClaim x).all Value.oneCell' = true := rfl
structure ApiPayout where
 Claim : ApiClaim
 Product : Int
 Amount : Int
deriving DecidableEq, Inhabited
def encApiPayout (x : ApiPayout) : List Value := [.int .i64 x.Claim.Serial, .int .i64 x.Claim.Machine, .int .i64 x.Claim.Seq, .int .i64 x.Claim.At, .bool x.Claim.Paid, .int .i64 x.Product, .int .i64 x.Amount]
def valApiPayout (x : ApiPayout) : Value := .agg #[.int .i64 x.Claim.Serial, .int .i64 x.Claim.Machine, .int .i64 x.Claim.Seq, .int .i64 x.Claim.At, .bool x.Claim.Paid, .int .i64 x.Product, .int .i64 x.Amount]
theorem encApiPayout_len (x : ApiPayout) : (encApiPayout x).length = 7 := rfl
theorem encApiPayout_one (x : ApiPayout) : (encApiPayout x).all Value.oneCell' = true := rfl
structure ApiFee where
 Producer : Int
 Material : Int
 Amount : Int
deriving DecidableEq, Inhabited
def encApiFee (x : ApiFee) : List Value := [.int .i64 x.Producer, .int .i64 x.Material, .int .i64 x.Amount]
def valApiFee (x : ApiFee) : Value := .agg #[.int .i64 x.Producer, .int .i64 x.Material, .int .i64 x.Amount]
theorem encApiFee_len (x : ApiFee) : (encApiFee x).length = 3 := rfl
theorem encApiFee_one (x : ApiFee) : (encApiFee x).all Value.oneCell' = true := rfl
structure ApiItem where
 Kind : Int
 Ref : Int
 Count : Int
 Price : Int
 Amount : Int
deriving DecidableEq, Inhabited
def encApiItem (x : ApiItem) : List Value := [.int .i64 x.Kind, .int .i64 x.Ref, .int .i64 x.Count, .int .i64 x.Price, .int .i64 x.Amount]
def valApiItem (x : ApiItem) : Value := .agg #[.int .i64 x.Kind, .int .i64 x.Ref, .int .i64 x.Count, .int .i64 x.Price, .int .i64 x.Amount]
theorem encApiItem_len (x : ApiItem) : (encApiItem x).length = 5 := rfl
theorem encApiItem_one (x : ApiItem) : (encApiItem x).all Value.oneCell' = true := rfl
structure ApiBill where
 ID : Int
 Household : Int
 When : ApiWindow
 Items : (List ApiItem)
 Total : Int
deriving Inhabited
def encApiBill (x : ApiBill) (d1 : Hdr) : List Value := [.int .i64 x.ID, .int .i64 x.Household, .int .i64 x.When.From, .int .i64 x.When.To, .slice d1.1 d1.2.1 d1.2.2, .int .i64 x.Total]
structure ApiLine where
 Account : Int
 Amount : Int
deriving DecidableEq, Inhabited
def encApiLine (x : ApiLine) : List Value := [.int .i64 x.Account, .int .i64 x.Amount]
def valApiLine (x : ApiLine) : Value := .agg #[.int .i64 x.Account, .int .i64 x.Amount]
theorem encApiLine_len (x : ApiLine) : (encApiLine x).length = 2 := rfl
theorem encApiLine_one (x : ApiLine) : (encApiLine x).all Value.oneCell' = true := rfl
structure ApiPosting where
 ID : Int
 At : Int
 Lines : (List ApiLine)
deriving Inhabited
def encApiPosting (x : ApiPosting) (d1 : Hdr) : List Value := [.int .i64 x.ID, .int .i64 x.At, .slice d1.1 d1.2.1 d1.2.2]
structure ApiBooks where
 Now : Int
 Account : ApiAccount
 Transfers : (List ApiTransfer)
 Inside : Int
 Bins : Int
 Bales : (List ApiBale)
 Products : (List ApiProduct)
 Sales : (List ApiSale)
 Claims : (List ApiClaim)
 Paid : (List ApiPayout)
 Costs : (List Int)
 Fees : (List ApiFee)
 Bills : (List ApiBill)
 Postings : (List ApiPosting)
deriving Inhabited
/-- emptying.within -/
def m_emptying_within (_N : Nat) (p0 : Int) (p1 : Int) (p2 : Int) : Option (Bool) :=
 some (((decide (p1 ≤ p0)) && (decide (p0 ≤ p2))))
set_option maxRecDepth 20000 in
theorem m_emptying_within_ok (N : Nat) (w0 : World) (p0 : Int) (p1 : Int) (p2 : Int)   (r : Bool) (hr : m_emptying_within N p0 p1 p2 = some r) :
  Ret Tryz.prog 116 [.int .i64 p0, .int .i64 p1, .int .i64 p2] w0 (fun (r : Bool) (_u : Unit) => .bool r) (fun (_r : Bool) (_u : Unit) => []) r := by
 refine calls_v (n := 15) r hr Tryz.func116 ?_
 unfold m_emptying_within
 refine sr <| la 1 ((6, .bool false) :: _) rfl <| nn <| cm_seq <| cm_cutE [(6, .bool ((decide (p1 ≤ p0)) && (decide (p0 ≤ p2))))] ?_ ?_
 ·refine qa 2 ((8, .int .i64 _) :: (7, .int .i64 _) :: _) rfl <| qd 9 (fun _ _ => op_geq rfl rfl) (fun h5 => ?_) (fun h5 => ?_)
  ·refine qa 6 ((6, .bool _) :: (14, .bool _) :: (13, .bool _) :: (12, .int .i64 _) :: (11, .int .i64 _) :: (10, .bool true) :: _) rfl ?_
   exact leaf_q (sub_out 9 _ rfl (by kernel_rfl) ⟨(congrArg Value.bool (by rw [decide_eq_true h5] <;> rfl)), trivial⟩)
  ·refine qa 6 ((6, .bool false) :: (14, .bool false) :: (13, undef) :: (12, undef) :: (11, undef) :: (10, .bool false) :: _) rfl ?_
   exact leaf_q (sub_out 9 _ rfl (by kernel_rfl) ⟨(congrArg Value.bool (by rw [decide_eq_false h5] <;> rfl)), trivial⟩)
 refine xm_next <| cm_ret ?_
 exact xm_retT rfl (by kernel_rfl) (show _ = Value.bool _ from rfl) fun w1 c1 => ⟨(), rfl, hsub [] (by kernel_rfl) rfl w1 c1⟩
/-- emptying.one -/
def m_emptying_one (N : Nat) (p0 : ApiEmptying) (p1 : Int) (p2 : Int) : Option (Int) :=
 Option.bind (m_emptying_within N p0.ID (1 : Int) (1000000 : Int)) fun r6 => (if (!r6) = true then
  some ((1 : Int))
 else
  (if ((((decide (p0.Container < 0)) || (decide (p1 ≤ p0.Container))) || (decide (p0.Vehicle < 0))) || (decide (p2 ≤ p0.Vehicle))) = true then
   some ((7 : Int))
  else
   Option.bind (m_emptying_within N p0.At (0 : Int) (3155759999 : Int)) fun a => (if ((((!a) || (decide (p0.Mass.Lo < 0))) || (decide (p0.Mass.Hi < p0.Mass.Lo))) || (decide (1073741824 < p0.Mass.Hi))) = true then
    some ((1 : Int))
   else
    some ((0 : Int)))))
set_option maxHeartbeats 2000000 in
set_option maxRecDepth 20000 in
theorem m_emptying_one_ok (N : Nat) (w0 : World) (p0 : ApiEmptying) (p1 : Int) (p2 : Int)   (r : Int) (hr : m_emptying_one N p0 p1 p2 = some r) :
  Ret Tryz.prog 112 [.agg #[.int .i64 p0.ID, .int .i64 p0.Container, .int .i64 p0.Vehicle, .int .i64 p0.At, .int .i64 p0.Mass.Lo, .int .i64 p0.Mass.Hi, .bool p0.Void], .int .i64 p1, .int .i64 p2] w0 (fun (r : Int) (_u : Unit) => .int .i64 r) (fun (_r : Int) (_u : Unit) => []) r := by
 refine calls_v (n := 59) r hr Tryz.func112 ?_
 unfold m_emptying_one
 refine sr <| lm_box 3 [.int .i64 _, .int .i64 _, .int .i64 _, .int .i64 _, .int .i64 _, .int .i64 _, .bool _] (by kernel_rfl) rfl ?_
 intro b5
 refine la 1 ((6, .int .i64 _) :: _) rfl <| nn <| cm_seq <| cm_block <| sr <| v_ 8 (fun _ _ => oF 0 0 rfl) <| v_ 9 (fun _ c1 => oL (c1.cell 0 (u := .int .i64 _) rfl rfl)) <| lm_call 10 (V := (fun (r : Bool) (_u : Unit) => .bool r)) (HR := (fun (_r : Bool) (_u : Unit) => [])) (by kernel_rfl) (fun w1 => op_call (by kernel_rfl)) (fun r1 hr1 w1 c1 => m_emptying_within_ok N w1 p0.ID (1 : Int) (1000000 : Int)  r1 hr1) ?_
 intro r6 u7
 refine la 2 ((7, .bool _) :: (11, .bool _) :: _) rfl <| nn <| cm_condB (by kernel_rfl) rfl (fun h8 => ?_) (fun h8 => ?_)
 ·refine sr <| la 1 ((6, .int .i64 _) :: _) rfl <| nn <| cm_ret <| xm_inR <| xm_thenR ?_
  exact xm_retT rfl (by kernel_rfl) (show _ = Value.int .i64 _ from rfl) fun w1 c1 => ⟨(), rfl, hsub [] (by kernel_rfl) rfl w1 c1⟩
 ·refine cm_seq <| cm_cutE [(12, .bool ((((decide (p0.Container < 0)) || (decide (p1 ≤ p0.Container))) || (decide (p0.Vehicle < 0))) || (decide (p2 ≤ p0.Vehicle))))] ?_ ?_
  ·refine q_ 13 (fun _ _ => oF 1 1 rfl) <| q_ 14 (fun _ c1 => oL (c1.cell 0 (u := .int .i64 _) rfl rfl)) <| qd 15 (fun _ _ => op_lss rfl rfl) (fun h9 => ?_) (fun h9 => ?_)
   ·refine qa 18 ((12, .bool true) :: (32, .bool true) :: (31, undef) :: (30, undef) :: (29, undef) :: (28, undef) :: (27, .bool true) :: (26, .bool true) :: (25, undef) :: (24, undef) :: (23, undef) :: (22, .bool true) :: (21, .bool true) :: (20, undef) :: (19, undef) :: (18, undef) :: (17, undef) :: (16, .bool true) :: _) rfl ?_
    exact leaf_q (sub_out 21 _ rfl (by kernel_rfl) ⟨(congrArg Value.bool (by rw [decide_eq_true h9] <;> rfl)), trivial⟩)
   ·refine qa 1 ((16, .bool false) :: _) rfl <| q_ 17 (fun _ _ => oF 1 1 rfl) <| q_ 18 (fun _ c1 => oL (c1.cell 0 (u := .int .i64 _) rfl rfl)) <| qa 1 ((19, .int .i64 _) :: _) rfl <| qd 20 (fun _ _ => op_geq rfl rfl) (fun b => ?_) (fun b => ?_)
    ·refine qa 13 ((12, .bool true) :: (32, .bool true) :: (31, undef) :: (30, undef) :: (29, undef) :: (28, undef) :: (27, .bool true) :: (26, .bool true) :: (25, undef) :: (24, undef) :: (23, undef) :: (22, .bool true) :: (21, .bool true) :: _) rfl ?_
     exact leaf_q (sub_out 21 _ rfl (by kernel_rfl) ⟨(congrArg Value.bool (by rw [decide_eq_false h9, decide_eq_true b] <;> rfl)), trivial⟩)
    ·refine qa 2 ((22, .bool false) :: (21, .bool false) :: _) rfl <| q_ 23 (fun _ _ => oF 2 2 rfl) <| q_ 24 (fun _ c1 => oL (c1.cell 0 (u := .int .i64 _) rfl rfl)) <| qd 25 (fun _ _ => op_lss rfl rfl) (fun e => ?_) (fun e => ?_)
     ·refine qa 8 ((12, .bool true) :: (32, .bool true) :: (31, undef) :: (30, undef) :: (29, undef) :: (28, undef) :: (27, .bool true) :: (26, .bool true) :: _) rfl ?_
      exact leaf_q (sub_out 21 _ rfl (by kernel_rfl) ⟨(congrArg Value.bool (by rw [decide_eq_false h9, decide_eq_false b, decide_eq_true e] <;> rfl)), trivial⟩)
     ·refine qa 2 ((27, .bool false) :: (26, .bool false) :: _) rfl <| q_ 28 (fun _ _ => oF 2 2 rfl) <| q_ 29 (fun _ c1 => oL (c1.cell 0 (u := .int .i64 _) rfl rfl)) <| qa 4 ((12, .bool _) :: (32, .bool _) :: (31, .bool _) :: (30, .int .i64 _) :: _) rfl ?_
      exact leaf_q (sub_out 21 _ rfl (by kernel_rfl) ⟨(congrArg Value.bool (by rw [decide_eq_false h9, decide_eq_false b, decide_eq_false e] <;> rfl)), trivial⟩)
  refine xm_next <| cm_condB (by kernel_rfl) rfl (fun i => ?_) (fun i => ?_)
  ·refine sr <| la 1 ((6, .int .i64 _) :: _) rfl <| nn <| cm_ret <| xm_inR <| xm_thenR ?_
   exact xm_retT rfl (by kernel_rfl) (show _ = Value.int .i64 _ from rfl) fun w1 c1 => ⟨(), rfl, hsub [] (by kernel_rfl) rfl w1 c1⟩
  ·refine cm_seq <| cm_bind fun g j => cm_cutE [(33, .bool ((((!g) || (decide (p0.Mass.Lo < 0))) || (decide (p0.Mass.Hi < p0.Mass.Lo))) || (decide (1073741824 < p0.Mass.Hi))))] ?_ ?_
   ·refine q_ 34 (fun _ _ => oF 3 3 rfl) <| q_ 35 (fun _ c1 => oL (c1.cell 0 (u := .int .i64 _) rfl rfl)) <| wq_callb 36 (by kernel_rfl) (fun w1 c1 => op_call (by kernel_rfl)) (fun w1 c1 => (m_emptying_within_ok N w1 p0.At (0 : Int) (3155759999 : Int)  g j).mono (fun _ _ ⟨_, hx, hu⟩ => ⟨hx, c1.call hu⟩)) (fun a => ?_) (fun a => ?_)
    ·refine qa 2 ((38, .bool false) :: (37, .bool false) :: _) rfl <| q_ 39 (fun _ _ => oF 4 4 rfl) <| q_ 40 (fun _ _ => oF 0 4 rfl) <| q_ 41 (fun _ c1 => oL (c1.cell 0 (u := .int .i64 _) rfl rfl)) <| qd 42 (fun _ _ => op_lss rfl rfl) (fun d => ?_) (fun d => ?_)
     ·refine qa 17 ((33, .bool true) :: (58, .bool true) :: (57, undef) :: (56, undef) :: (55, undef) :: (54, undef) :: (53, .bool true) :: (52, .bool true) :: (51, undef) :: (50, undef) :: (49, undef) :: (48, undef) :: (47, undef) :: (46, undef) :: (45, undef) :: (44, .bool true) :: (43, .bool true) :: _) rfl ?_
      exact leaf_q (sub_out 26 _ rfl (by kernel_rfl) ⟨(congrArg Value.bool (by rw [a, decide_eq_true d] <;> rfl)), trivial⟩)
     ·refine qa 2 ((44, .bool false) :: (43, .bool false) :: _) rfl <| q_ 45 (fun _ _ => oF 4 4 rfl) <| q_ 46 (fun _ _ => oF 0 4 rfl) <| q_ 47 (fun _ c1 => oL (c1.cell 0 (u := .int .i64 _) rfl rfl)) <| q_ 48 (fun _ _ => oF 4 4 rfl) <| q_ 49 (fun _ _ => oF 1 5 rfl) <| q_ 50 (fun _ c1 => oL (c1.cell 0 (u := .int .i64 _) rfl rfl)) <| qd 51 (fun _ _ => op_gtr rfl rfl) (fun f => ?_) (fun f => ?_)
      ·refine qa 8 ((33, .bool true) :: (58, .bool true) :: (57, undef) :: (56, undef) :: (55, undef) :: (54, undef) :: (53, .bool true) :: (52, .bool true) :: _) rfl ?_
       exact leaf_q (sub_out 26 _ rfl (by kernel_rfl) ⟨(congrArg Value.bool (by rw [a, decide_eq_false d, decide_eq_true f] <;> rfl)), trivial⟩)
      ·refine qa 2 ((53, .bool false) :: (52, .bool false) :: _) rfl <| q_ 54 (fun _ _ => oF 4 4 rfl) <| q_ 55 (fun _ _ => oF 1 5 rfl) <| q_ 56 (fun _ c1 => oL (c1.cell 0 (u := .int .i64 _) rfl rfl)) <| qa 3 ((33, .bool _) :: (58, .bool _) :: (57, .bool _) :: _) rfl ?_
       exact leaf_q (sub_out 26 _ rfl (by kernel_rfl) ⟨(congrArg Value.bool (by rw [a, decide_eq_false d, decide_eq_false f] <;> rfl)), trivial⟩)
    ·refine qa 23 ((33, .bool true) :: (58, .bool true) :: (57, undef) :: (56, undef) :: (55, undef) :: (54, undef) :: (53, .bool true) :: (52, .bool true) :: (51, undef) :: (50, undef) :: (49, undef) :: (48, undef) :: (47, undef) :: (46, undef) :: (45, undef) :: (44, .bool true) :: (43, .bool true) :: (42, undef) :: (41, undef) :: (40, undef) :: (39, undef) :: (38, .bool true) :: (37, .bool true) :: _) rfl ?_
     exact leaf_q (sub_out 26 _ rfl (by kernel_rfl) ⟨(congrArg Value.bool (by rw [a] <;> rfl)), trivial⟩)
   refine xm_next <| cm_condB (by kernel_rfl) rfl (fun l => ?_) (fun l => ?_)
   ·refine sr <| la 1 ((6, .int .i64 _) :: _) rfl <| nn <| cm_ret <| xm_inR <| xm_thenR ?_
    exact xm_retT rfl (by kernel_rfl) (show _ = Value.int .i64 _ from rfl) fun w1 c1 => ⟨(), rfl, hsub [] (by kernel_rfl) rfl w1 c1⟩
   ·refine cm_skip <| xm_inN <| xm_next <| sr <| la 1 ((6, .int .i64 _) :: _) rfl <| nn <| cm_ret ?_
    exact xm_retT rfl (by kernel_rfl) (show _ = Value.int .i64 _ from rfl) fun w1 c1 => ⟨(), rfl, hsub [] (by kernel_rfl) rfl w1 c1⟩
/-- emptying.Check -/
def m_emptying_Check (N : Nat) (p0 : (List ApiEmptying)) (p1 : Int) (p2 : Int) : Option (Int) :=
 (if 512 < (List.length p0 : Int) then
  some ((8 : Int))
 else
  (andThen
   (loopM (fun (b : Int) =>
    (if b < (List.length p0 : Int) then
     ck ((0 : Int) ≤ b ∧ b < (List.length p0 : Int)) (
      Option.bind (m_emptying_one N (ix p0 b) p1 p2) fun d => (if d ≠ 0 then
       some (.done (.done (d)))
      else
       ck (I64 (b + (1 : Int))) (
        some (.next (b + (1 : Int))))))
    else
     some (.done (.next ())))) N (0 : Int))
  fun (_s33 : Unit) =>
   (andThen
    (loopM (fun (a : (List (Int × Bool)) × Int) =>
     (if a.2 < (List.length p0 : Int) then
      ck ((0 : Int) ≤ a.2 ∧ a.2 < (List.length p0 : Int)) (
       ck (I64 ((ix p0 a.2).ID)) (
        (if (Option.getD (mget a.1 ((ix p0 a.2).ID)) false) = true then
         some (.done (.done ((6 : Int))))
        else
         ck (I64 ((ix p0 a.2).ID)) (
          ck (I64 (a.2 + (1 : Int))) (
           some (.next ((mput a.1 ((ix p0 a.2).ID) true), (a.2 + (1 : Int)))))))))
     else
      some (.done (.next ())))) N (([] : (List (Int × Bool))), (0 : Int)))
   fun (_s90 : Unit) =>
    some ((0 : Int)))))
set_option maxHeartbeats 2000000 in
set_option maxRecDepth 20000 in
theorem m_emptying_Check_ok (N : Nat) (w0 : World) (p0 : (List ApiEmptying)) (p1 : Int) (p2 : Int) (e : Option Addr) (g : Nat) (i : Nat) (j : RdE w0 7 encApiEmptying e p0) (f : SW e g i (List.length p0)) (r : Int) (hr : m_emptying_Check N p0 p1 p2 = some r) :
  Ret Tryz.prog 56 [.slice e g i, .int .i64 p1, .int .i64 p2] w0 (fun (r : Int) (_u : Unit) => .int .i64 r) (fun (_r : Int) (_u : Unit) => []) r := by
 refine calls_v (n := 45) r hr Tryz.func56 ?_
 unfold m_emptying_Check
 refine sr <| la 1 ((6, .int .i64 _) :: _) rfl <| nn <| cm_seq <| sr <| la 1 ((13, .slice _ _ _) :: _) rfl <| v_ 14 (fun _ _ => op_lenN rfl (by kernel_rfl) f.2.2) <| la 1 ((15, .bool _) :: _) rfl <| nn <| cm_cond (by kernel_rfl) rfl (fun h5 => ?_) (fun h5 => ?_)
 ·refine sr <| la 1 ((6, .int .i64 _) :: _) rfl <| nn <| cm_ret <| xm_thenR ?_
  exact xm_retT rfl (by kernel_rfl) (show _ = Value.int .i64 _ from rfl) fun w1 c1 => ⟨(), rfl, hsub [] (by kernel_rfl) rfl w1 c1⟩
 ·refine sk <| cm_join (σ := Unit) (ξ := Unit) (fun t x => [(0, .slice e g i)]) (fun t x => []) ?_ ?_
  ·refine sr <| la 1 ((16, .slice _ _ _) :: _) rfl <| v_ 17 (fun _ _ => op_lenN rfl (by kernel_rfl) f.2.2) <| la 1 ((18, .int .i64 _) :: _) rfl <| nn <| cm_block <| cm_loop (σ := Int) (ξ := Unit) (fun d z => [(0, .slice e g i), (1, .int .i64 p1), (2, .int .i64 p2), (16, .slice e g i), (17, .int .i64 (List.length p0 : Int)), (18, .int .i64 d)]) (fun d z => []) () ?_ ?_ ?_
   ·exact sq
   ·exact sh []
   intro d z
   refine sr <| la 1 ((19, .bool _) :: _) rfl <| nn <| cm_seq <| cm_cond (by kernel_rfl) rfl (fun Q => ?_) (fun Q => ?_)
   ·refine sk <| cm_seq <| cm_block <| sr <| lm_ck (fun o => ?_)
    refine v_ 20 (fun _ c1 => oI 7 rfl rfl ((j.old c1).addr o.1 o.2) f.2.2 o) <| v_ 21 (fun _ c1 => oR [.int .i64 ((ix p0 d).ID), .int .i64 ((ix p0 d).Container), .int .i64 ((ix p0 d).Vehicle), .int .i64 ((ix p0 d).At), .int .i64 ((ix p0 d).Mass.Lo), .int .i64 ((ix p0 d).Mass.Hi), .bool ((ix p0 d).Void)] ((j.old c1).row o.1 o.2)) <| lm_alloc 8 [.int .i64 0, .int .i64 0, .int .i64 0, .int .i64 0, .int .i64 0, .int .i64 0, .bool false] (v := .agg #[.int .i64 0, .int .i64 0, .int .i64 0, .int .i64 0, .int .i64 0, .int .i64 0, .bool false]) (by kernel_rfl) (by kernel_rfl) rfl ?_
    intro Z
    refine lm_storeA 0 [.int .i64 _, .int .i64 _, .int .i64 _, .int .i64 _, .int .i64 _, .int .i64 _, .bool _] [_, _, _, _, _, _, _] (H' := [blkE _ _ [_, _, _, _, _, _, _]]) (by kernel_rfl) rfl rfl (by kernel_rfl) rfl rfl (by kernel_rfl) rfl rfl <| nn <| sr <| v_ 22 (fun _ c1 => oR [.int .i64 _, .int .i64 _, .int .i64 _, .int .i64 _, .int .i64 _, .int .i64 _, .bool _] (c1.cells 0 rfl rfl)) <| la 2 ((24, .int .i64 _) :: (23, .int .i64 _) :: _) rfl <| lm_call 25 (V := (fun (r : Int) (_u : Unit) => .int .i64 r)) (HR := (fun (_r : Int) (_u : Unit) => [])) (by kernel_rfl) (fun w1 => op_call (by kernel_rfl)) (fun r1 hr1 w1 c1 => m_emptying_one_ok N w1 (ix p0 d) p1 p2  r1 hr1) ?_
    intro a0 a1
    refine la 1 ((9, .int .i64 _) :: _) rfl <| nn <| sr <| la 2 ((27, .bool _) :: (26, .int .i64 _) :: _) rfl <| nn <| cm_cond (by kernel_rfl) rfl (fun U => ?_) (fun U => ?_)
    ·refine sr <| la 2 ((6, .int .i64 _) :: (28, .int .i64 _) :: _) rfl <| nn <| cm_ret <| xm_inR <| xm_thenR <| xm_lret <| xm_inR <| xm_lret ?_
     exact xm_retT rfl (by kernel_rfl) (show _ = Value.int .i64 _ from rfl) fun w1 c1 => ⟨(), rfl, hsub [] (by kernel_rfl) rfl w1 c1⟩
    ·refine cm_skip <| xm_inN <| xm_next <| cm_region <| lm_ck (fun X => ?_)
     refine v_ 29 (fun _ _ => op_add rfl rfl X) <| la 1 ((18, .int .i64 _) :: _) rfl <| lm_nil ?_
     exact xm_lnext () sq (sh [])
   ·refine cm_exit <| xm_thenE <| xm_lexit <| xm_here ?_
    exact xm_lnext () sq (sh [])
  intro t x
  refine sr <| lm_makeMap (κ := Int) (α := Bool) 30 3 (Value.int .i64) Value.bool (by kernel_rfl) ?_
  intro B
  refine la 1 ((10, .map (some _)) :: _) rfl <| nn <| cm_join (σ := Unit) (ξ := Unit) (fun C G => []) (fun C G => []) ?_ ?_
  ·refine sr <| la 1 ((31, .slice _ _ _) :: _) rfl <| v_ 32 (fun _ _ => op_lenN rfl (by kernel_rfl) f.2.2) <| la 1 ((33, .int .i64 _) :: _) rfl <| nn <| cm_block <| cm_loop (σ := (List (Int × Bool)) × Int) (ξ := Unit) (fun b q => [(10, .map (some B)), (31, .slice e g i), (32, .int .i64 (List.length p0 : Int)), (33, .int .i64 b.2)]) (fun b q => [mapE Tryz.prog 3 (Value.int .i64) Value.bool B b.1]) () ?_ ?_ ?_
   ·exact sq
   ·exact sh [0]
   intro b q
   refine sr <| la 1 ((34, .bool _) :: _) rfl <| nn <| cm_seq <| cm_cond (by kernel_rfl) rfl (fun J => ?_) (fun J => ?_)
   ·refine sk <| cm_seq <| cm_block <| sr <| lm_ck (fun m => ?_)
    refine v_ 35 (fun _ c1 => oI 7 rfl rfl ((j.old c1).addr m.1 m.2) f.2.2 m) <| v_ 36 (fun _ c1 => oR [.int .i64 ((ix p0 b.2).ID), .int .i64 ((ix p0 b.2).Container), .int .i64 ((ix p0 b.2).Vehicle), .int .i64 ((ix p0 b.2).At), .int .i64 ((ix p0 b.2).Mass.Lo), .int .i64 ((ix p0 b.2).Mass.Hi), .bool ((ix p0 b.2).Void)] ((j.old c1).row m.1 m.2)) <| lm_alloc 12 [.int .i64 0, .int .i64 0, .int .i64 0, .int .i64 0, .int .i64 0, .int .i64 0, .bool false] (v := .agg #[.int .i64 0, .int .i64 0, .int .i64 0, .int .i64 0, .int .i64 0, .int .i64 0, .bool false]) (by kernel_rfl) (by kernel_rfl) rfl ?_
    intro Y
    refine lm_storeA 0 [.int .i64 _, .int .i64 _, .int .i64 _, .int .i64 _, .int .i64 _, .int .i64 _, .bool _] [_, _, _, _, _, _, _] (H' := [blkE _ _ [_, _, _, _, _, _, _], _]) (by kernel_rfl) rfl rfl (by kernel_rfl) rfl rfl (by kernel_rfl) rfl rfl <| nn <| cm_seq <| sr <| la 1 ((37, .map (some _)) :: _) rfl <| v_ 38 (fun _ _ => oF 0 0 rfl) <| v_ 39 (fun _ c1 => oL (c1.cell 0 (u := .int .i64 _) rfl rfl)) <| lm_ck (fun K => ?_)
    refine v_ 40 (fun _ c1 => op_lookup (κ := Int) (α := Bool) (ek := (Value.int .i64)) (ev := Value.bool) (l := b.1) (y := ((ix p0 b.2).ID)) false rfl rfl (Maps.int_keyed Tryz.underlying3) (ek_int .i64) (key_i64 Tryz.underlying3 K) Tryz.underlying175 rfl (c1.map 1 rfl)) <| nn <| cm_condB (by kernel_rfl) rfl (fun L => ?_) (fun L => ?_)
    ·refine sr <| la 1 ((6, .int .i64 _) :: _) rfl <| nn <| cm_ret <| xm_thenR <| xm_inR <| xm_thenR <| xm_lret <| xm_inR <| xm_lret ?_
     exact xm_retT rfl (by kernel_rfl) (show _ = Value.int .i64 _ from rfl) fun w1 c1 => ⟨(), rfl, hsub [] (by kernel_rfl) rfl w1 c1⟩
    ·refine sk <| cm_region <| la 1 ((41, .map (some _)) :: _) rfl <| v_ 42 (fun _ _ => oF 0 0 rfl) <| v_ 43 (fun _ c1 => oL (c1.cell 0 (u := .int .i64 _) rfl rfl)) <| lm_ck (fun M => ?_)
     refine lm_mapUpdate 1 (κ := Int) (α := Bool) (ek := (Value.int .i64)) (ev := Value.bool) (l := b.1) (y := ((ix p0 b.2).ID)) (a := true) (by kernel_rfl) rfl rfl rfl (Maps.int_keyed Tryz.underlying3) (ek_int .i64) (key_i64 Tryz.underlying3 M) Tryz.underlying175 rfl rfl <| lm_nil <| xm_inN <| xm_next <| cm_region <| lm_ck (fun O => ?_)
     refine v_ 44 (fun _ _ => op_add rfl rfl O) <| la 1 ((33, .int .i64 _) :: _) rfl <| lm_nil ?_
     exact xm_lnext () sq (sh [1])
   ·refine cm_exit <| xm_thenE <| xm_lexit <| xm_here ?_
    exact xm_lnext () sub_nil (sh [])
  intro C G
  refine sr <| la 1 ((6, .int .i64 _) :: _) rfl <| nn <| cm_ret ?_
  exact xm_retT rfl (by kernel_rfl) (show _ = Value.int .i64 _ from rfl) fun w1 c1 => ⟨(), rfl, hsub [] (by kernel_rfl) rfl w1 c1⟩
/-- cmp.isNaN -/
def m_cmp_isNaN (_N : Nat) (p0 : Int) : Option (Bool) :=
 some ((decide (p0 ≠ p0)))
set_option maxRecDepth 20000 in
theorem m_cmp_isNaN_ok (N : Nat) (w0 : World) (p0 : Int)   (r : Bool) (hr : m_cmp_isNaN N p0 = some r) :
  Ret Tryz.prog 158 [.int .i64 p0] w0 (fun (r : Bool) (_u : Unit) => .bool r) (fun (_r : Bool) (_u : Unit) => []) r := by
 refine calls_v (n := 6) r hr Tryz.func158 ?_
 unfold m_cmp_isNaN
 refine sr <| la 1 ((2, .bool false) :: _) rfl <| nn <| sr <| la 4 ((2, .bool _) :: (5, .bool _) :: (4, .int .i64 _) :: (3, .int .i64 _) :: _) rfl <| nn <| cm_ret ?_
 exact xm_retT rfl (by kernel_rfl) (show _ = Value.bool _ from rfl) fun w1 c1 => ⟨(), rfl, hsub [] (by kernel_rfl) rfl w1 c1⟩
/-- cmp.Compare -/
def m_cmp_Compare (N : Nat) (p0 : Int) (p1 : Int) : Option (Int) :=
 Option.bind (m_cmp_isNaN N p0) fun r5 => Option.bind (m_cmp_isNaN N p1) fun r7 => (if r5 = true then
  (if r7 = true then
   some ((0 : Int))
  else
   some ((-1 : Int)))
 else
  (if r7 = true then
   some ((1 : Int))
  else
   (if p0 < p1 then
    some ((-1 : Int))
   else
    (if p1 < p0 then
     some ((1 : Int))
    else
     some ((0 : Int))))))
set_option maxHeartbeats 2000000 in
set_option maxRecDepth 20000 in
theorem m_cmp_Compare_ok (N : Nat) (w0 : World) (p0 : Int) (p1 : Int)   (r : Int) (hr : m_cmp_Compare N p0 p1 = some r) :
  Ret Tryz.prog 146 [.int .i64 p0, .int .i64 p1] w0 (fun (r : Int) (_u : Unit) => .int .i64 r) (fun (_r : Int) (_u : Unit) => []) r := by
 refine calls_v (n := 20) r hr Tryz.func146 ?_
 unfold m_cmp_Compare
 refine sr <| la 1 ((4, .int .i64 _) :: _) rfl <| nn <| sr <| la 1 ((7, .int .i64 _) :: _) rfl <| lm_call 8 (V := (fun (r : Bool) (_u : Unit) => .bool r)) (HR := (fun (_r : Bool) (_u : Unit) => [])) (by kernel_rfl) (fun w1 => op_call (by kernel_rfl)) (fun r1 hr1 w1 c1 => m_cmp_isNaN_ok N w1 p0  r1 hr1) ?_
 intro r5 u6
 refine la 1 ((5, .bool _) :: _) rfl <| nn <| sr <| la 1 ((9, .int .i64 _) :: _) rfl <| lm_call 10 (V := (fun (r : Bool) (_u : Unit) => .bool r)) (HR := (fun (_r : Bool) (_u : Unit) => [])) (by kernel_rfl) (fun w1 => op_call (by kernel_rfl)) (fun r1 hr1 w1 c1 => m_cmp_isNaN_ok N w1 p1  r1 hr1) ?_
 intro r7 u8
 refine la 1 ((6, .bool _) :: _) rfl <| nn <| cm_seq <| sr <| la 1 ((11, .bool _) :: _) rfl <| nn <| cm_condB (by kernel_rfl) rfl (fun h9 => ?_) (fun h9 => ?_)
 ·refine cm_seq <| sr <| la 1 ((12, .bool _) :: _) rfl <| nn <| cm_condB (by kernel_rfl) rfl (fun a => ?_) (fun a => ?_)
  ·refine sr <| la 1 ((4, .int .i64 _) :: _) rfl <| nn <| cm_ret <| xm_thenR <| xm_thenR ?_
   exact xm_retT rfl (by kernel_rfl) (show _ = Value.int .i64 _ from rfl) fun w1 c1 => ⟨(), rfl, hsub [] (by kernel_rfl) rfl w1 c1⟩
  ·refine sk <| sr <| la 1 ((4, .int .i64 _) :: _) rfl <| nn <| cm_ret <| xm_thenR ?_
   exact xm_retT rfl (by kernel_rfl) (show _ = Value.int .i64 _ from rfl) fun w1 c1 => ⟨(), rfl, hsub [] (by kernel_rfl) rfl w1 c1⟩
 ·refine sk <| cm_seq <| sr <| la 1 ((13, .bool _) :: _) rfl <| nn <| cm_condB (by kernel_rfl) rfl (fun b => ?_) (fun b => ?_)
  ·refine sr <| la 1 ((4, .int .i64 _) :: _) rfl <| nn <| cm_ret <| xm_thenR ?_
   exact xm_retT rfl (by kernel_rfl) (show _ = Value.int .i64 _ from rfl) fun w1 c1 => ⟨(), rfl, hsub [] (by kernel_rfl) rfl w1 c1⟩
  ·refine sk <| cm_seq <| sr <| la 3 ((16, .bool _) :: (15, .int .i64 _) :: (14, .int .i64 _) :: _) rfl <| nn <| cm_cond (by kernel_rfl) rfl (fun d => ?_) (fun d => ?_)
   ·refine sr <| la 1 ((4, .int .i64 _) :: _) rfl <| nn <| cm_ret <| xm_thenR ?_
    exact xm_retT rfl (by kernel_rfl) (show _ = Value.int .i64 _ from rfl) fun w1 c1 => ⟨(), rfl, hsub [] (by kernel_rfl) rfl w1 c1⟩
   ·refine sk <| cm_seq <| sr <| la 3 ((19, .bool _) :: (18, .int .i64 _) :: (17, .int .i64 _) :: _) rfl <| nn <| cm_cond (by kernel_rfl) rfl (fun e => ?_) (fun e => ?_)
    ·refine sr <| la 1 ((4, .int .i64 _) :: _) rfl <| nn <| cm_ret <| xm_thenR ?_
     exact xm_retT rfl (by kernel_rfl) (show _ = Value.int .i64 _ from rfl) fun w1 c1 => ⟨(), rfl, hsub [] (by kernel_rfl) rfl w1 c1⟩
    ·refine sk <| sr <| la 1 ((4, .int .i64 _) :: _) rfl <| nn <| cm_ret ?_
     exact xm_retT rfl (by kernel_rfl) (show _ = Value.int .i64 _ from rfl) fun w1 c1 => ⟨(), rfl, hsub [] (by kernel_rfl) rfl w1 c1⟩
/-- cmp.Or -/
def m_cmp_Or (N : Nat) (p0 : (List Int)) : Option (Int) :=
 (andThen
  (loopM (fun (a : Int) =>
   (if a < (List.length p0 : Int) then
    ck ((0 : Int) ≤ a ∧ a < (List.length p0 : Int)) (
     (if (ix p0 a) ≠ 0 then
      some (.done (.done ((ix p0 a))))
     else
      ck (I64 (a + (1 : Int))) (
       some (.next (a + (1 : Int))))))
   else
    some (.done (.next ())))) N (0 : Int))
 fun (_s23 : Unit) =>
  some ((0 : Int)))
set_option maxRecDepth 20000 in
theorem m_cmp_Or_ok (N : Nat) (w0 : World) (p0 : (List Int)) (a : Option Addr) (d : Nat) (e : Nat) (f : RdE w0 1 encI a p0) (g : SW a d e (List.length p0)) (r : Int) (hr : m_cmp_Or N p0 = some r) :
  Ret Tryz.prog 145 [.slice a d e] w0 (fun (r : Int) (_u : Unit) => .int .i64 r) (fun (_r : Int) (_u : Unit) => []) r := by
 refine calls_v (n := 18) r hr Tryz.func145 ?_
 unfold m_cmp_Or
 refine sr <| la 1 ((2, .int .i64 _) :: _) rfl <| nn <| sr <| la 1 ((3, .int .i64 _) :: _) rfl <| nn <| cm_join (σ := Unit) (ξ := Unit) (fun j l => [(3, .int .i64 0)]) (fun j l => []) ?_ ?_
 ·refine sr <| la 1 ((6, .slice _ _ _) :: _) rfl <| v_ 7 (fun _ _ => op_lenN rfl (by kernel_rfl) g.2.2) <| la 1 ((8, .int .i64 _) :: _) rfl <| nn <| cm_block <| cm_loop (σ := Int) (ξ := Unit) (fun i m => [(3, .int .i64 0), (6, .slice a d e), (7, .int .i64 (List.length p0 : Int)), (8, .int .i64 i)]) (fun i m => []) () ?_ ?_ ?_
  ·exact sq
  ·exact sh []
  intro i m
  refine sr <| la 1 ((9, .bool _) :: _) rfl <| nn <| cm_seq <| cm_cond (by kernel_rfl) rfl (fun o => ?_) (fun o => ?_)
  ·refine sk <| cm_seq <| cm_block <| sr <| lm_ck (fun b => ?_)
   refine v_ 10 (fun _ c1 => oI 1 rfl rfl ((f.old c1).addr b.1 b.2) g.2.2 b) <| v_ 11 (fun _ c1 => oL (v := .int .i64 (ix p0 i)) ((f.old c1).cell0 b.1 b.2 rfl)) <| la 1 ((5, .int .i64 _) :: _) rfl <| nn <| sr <| la 3 ((14, .bool _) :: (13, .int .i64 _) :: (12, .int .i64 _) :: _) rfl <| nn <| cm_cond (by kernel_rfl) rfl (fun q => ?_) (fun q => ?_)
   ·refine sr <| la 2 ((2, .int .i64 _) :: (15, .int .i64 _) :: _) rfl <| nn <| cm_ret <| xm_inR <| xm_thenR <| xm_lret <| xm_inR <| xm_lret ?_
    exact xm_retT rfl (by kernel_rfl) (show _ = Value.int .i64 _ from rfl) fun w1 c1 => ⟨(), rfl, hsub [] (by kernel_rfl) rfl w1 c1⟩
   ·refine cm_skip <| xm_inN <| xm_next <| cm_region <| lm_ck (fun t => ?_)
    refine v_ 16 (fun _ _ => op_add rfl rfl t) <| la 1 ((8, .int .i64 _) :: _) rfl <| lm_nil ?_
    exact xm_lnext () sq (sh [])
  ·refine cm_exit <| xm_thenE <| xm_lexit <| xm_here ?_
   exact xm_lnext () sq (sh [])
 intro j l
 refine sr <| la 2 ((2, .int .i64 _) :: (17, .int .i64 _) :: _) rfl <| nn <| cm_ret ?_
 exact xm_retT rfl (by kernel_rfl) (show _ = Value.int .i64 _ from rfl) fun w1 c1 => ⟨(), rfl, hsub [] (by kernel_rfl) rfl w1 c1⟩
/-- emptying.sorted$1 -/
def m_emptying_sorted_1 (N : Nat) (p0 : Int) (p1 : Int) (q0 : (List ApiEmptying)) : Option (Int) :=
 ck ((0 : Int) ≤ p0 ∧ p0 < (List.length q0 : Int)) (
  ck ((0 : Int) ≤ p1 ∧ p1 < (List.length q0 : Int)) (
   Option.bind (m_cmp_Compare N ((ix q0 p0).At) ((ix q0 p1).At)) fun r7 => ck ((0 : Int) ≤ p0 ∧ p0 < (List.length q0 : Int)) (
    ck ((0 : Int) ≤ p1 ∧ p1 < (List.length q0 : Int)) (
     Option.bind (m_cmp_Compare N ((ix q0 p0).ID) ((ix q0 p1).ID)) fun a => Option.bind (m_cmp_Or N ([r7, a])) fun b => some (b)))))
set_option maxRecDepth 20000 in
theorem m_emptying_sorted_1_ok (N : Nat) (w0 : World) (p0 : Int) (p1 : Int) (q0 : (List ApiEmptying)) (B : Nat) (g : Option Addr) (l : Nat) (o : Nat) (e : Blk w0 B 25 [.slice g l o]) (b : RdE w0 7 encApiEmptying g q0) (d : SW g l o (List.length q0)) (r : Int) (hr : m_emptying_sorted_1 N p0 p1 q0 = some r) :
  Ret Tryz.prog 144 [.int .i64 p0, .int .i64 p1, .pointer (some ⟨B, 0, none⟩)] w0 (fun (r : Int) (_u : Unit) => .int .i64 r) (fun (_r : Int) (_u : Unit) => []) r := by
 refine calls_v (n := 30) r hr Tryz.func144 ?_
 unfold m_emptying_sorted_1
 refine sr <| la 1 ((5, .int .i64 _) :: _) rfl <| nn <| cm_seq <| cm_ck (fun h5 => ?_)
 refine cm_ck (fun h6 => ?_)
 refine cm_bind fun r7 h8 => cm_ck (fun h9 => ?_)
 refine cm_ck (fun f => ?_)
 refine cm_bind fun q M => cm_bind fun C O => cm_held (ξ := Unit) (fun G => [(5, .int .i64 C)]) (fun G => []) [] 25 (by kernel_rfl) (by rfl) (hsub [] (by kernel_rfl) (by rfl)) ?_ ?_
 ·intro Q a
  refine wh_take 0 6 rfl (by kernel_rfl) (by kernel_rfl) (fun w2 c2 => (op_load rfl (by kernel_rfl) (c2.ocell (e.at_ 0 (u := .slice _ _ _) rfl)))) (hsub [] (by kernel_rfl) rfl _ a) <| wh_take 1 7 rfl (by kernel_rfl) (by kernel_rfl) (fun w2 c2 => (op_move (v := .int .i64 _) rfl)) (hsub [] (by kernel_rfl) rfl _ a) <| wh_take 2 8 rfl (by kernel_rfl) (by kernel_rfl) (fun w2 c2 => (op_indexA 7 rfl rfl (by kernel_rfl) ((b.old c2).addr h5.1 h5.2) d.2.2 h5.1 h5.2)) (hsub [] (by kernel_rfl) rfl _ a) <| wh_take 3 9 rfl (by kernel_rfl) (by kernel_rfl) (fun w2 c2 => (op_field (m := 3) rfl (by kernel_rfl))) (hsub [] (by kernel_rfl) rfl _ a) <| wh_take 4 10 rfl (by kernel_rfl) (by kernel_rfl) (fun w2 c2 => (op_load (v := .int .i64 ((ix q0 p0).At)) rfl (by kernel_rfl) ((b.old c2).cell (j := 3) h5.1 h5.2 rfl))) (hsub [] (by kernel_rfl) rfl _ a) <| wh_take 5 11 rfl (by kernel_rfl) (by kernel_rfl) (fun w2 c2 => (op_load rfl (by kernel_rfl) (c2.ocell (e.at_ 0 (u := .slice _ _ _) rfl)))) (hsub [] (by kernel_rfl) rfl _ a) <| wh_take 6 12 rfl (by kernel_rfl) (by kernel_rfl) (fun w2 c2 => (op_move (v := .int .i64 _) rfl)) (hsub [] (by kernel_rfl) rfl _ a) <| wh_take 7 13 rfl (by kernel_rfl) (by kernel_rfl) (fun w2 c2 => (op_indexA 7 rfl rfl (by kernel_rfl) ((b.old c2).addr h6.1 h6.2) d.2.2 h6.1 h6.2)) (hsub [] (by kernel_rfl) rfl _ a) <| wh_take 8 14 rfl (by kernel_rfl) (by kernel_rfl) (fun w2 c2 => (op_field (m := 3) rfl (by kernel_rfl))) (hsub [] (by kernel_rfl) rfl _ a) <| wh_take 9 15 rfl (by kernel_rfl) (by kernel_rfl) (fun w2 c2 => (op_load (v := .int .i64 ((ix q0 p1).At)) rfl (by kernel_rfl) ((b.old c2).cell (j := 3) h6.1 h6.2 rfl))) (hsub [] (by kernel_rfl) rfl _ a) <| wh_take 11 17 rfl (by kernel_rfl) (by kernel_rfl) (fun w2 c2 => (op_load rfl (by kernel_rfl) (c2.ocell (e.at_ 0 (u := .slice _ _ _) rfl)))) (hsub [] (by kernel_rfl) rfl _ a) <| wh_take 12 18 rfl (by kernel_rfl) (by kernel_rfl) (fun w2 c2 => (op_move (v := .int .i64 _) rfl)) (hsub [] (by kernel_rfl) rfl _ a) ?_
  refine wh_take 13 19 rfl (by kernel_rfl) (by kernel_rfl) (fun w2 c2 => (op_indexA 7 rfl rfl (by kernel_rfl) ((b.old c2).addr h9.1 h9.2) d.2.2 h9.1 h9.2)) (hsub [] (by kernel_rfl) rfl _ a) <| wh_take 14 20 rfl (by kernel_rfl) (by kernel_rfl) (fun w2 c2 => (op_field0 rfl (by kernel_rfl))) (hsub [] (by kernel_rfl) rfl _ a) <| wh_take 15 21 rfl (by kernel_rfl) (by kernel_rfl) (fun w2 c2 => (op_load (v := .int .i64 ((ix q0 p0).ID)) rfl (by kernel_rfl) ((b.old c2).cell0 h9.1 h9.2 rfl))) (hsub [] (by kernel_rfl) rfl _ a) <| wh_take 16 22 rfl (by kernel_rfl) (by kernel_rfl) (fun w2 c2 => (op_load rfl (by kernel_rfl) (c2.ocell (e.at_ 0 (u := .slice _ _ _) rfl)))) (hsub [] (by kernel_rfl) rfl _ a) <| wh_take 17 23 rfl (by kernel_rfl) (by kernel_rfl) (fun w2 c2 => (op_move (v := .int .i64 _) rfl)) (hsub [] (by kernel_rfl) rfl _ a) <| wh_take 18 24 rfl (by kernel_rfl) (by kernel_rfl) (fun w2 c2 => (op_indexA 7 rfl rfl (by kernel_rfl) ((b.old c2).addr f.1 f.2) d.2.2 f.1 f.2)) (hsub [] (by kernel_rfl) rfl _ a) <| wh_take 19 25 rfl (by kernel_rfl) (by kernel_rfl) (fun w2 c2 => (op_field0 rfl (by kernel_rfl))) (hsub [] (by kernel_rfl) rfl _ a) <| wh_take 20 26 rfl (by kernel_rfl) (by kernel_rfl) (fun w2 c2 => (op_load (v := .int .i64 ((ix q0 p1).ID)) rfl (by kernel_rfl) ((b.old c2).cell0 f.1 f.2 rfl))) (hsub [] (by kernel_rfl) rfl _ a) <| wh_ready [10] (by kernel_rfl) rfl ⟨?_, trivial⟩
  refine ws_call 16 rfl (by kernel_rfl) (op_call (by kernel_rfl)) (m_cmp_Compare_ok N _ ((ix q0 p0).At) ((ix q0 p1).At)  r7 h8) ?_
  rintro x U ⟨V, rfl, t⟩
  replace t := a.call t
  refine ⟨_, rfl, (hsub [] (by kernel_rfl) rfl _ t), ?_⟩
  refine wh_ready [21] (by kernel_rfl) rfl ⟨?_, trivial⟩
  refine ws_call 27 rfl (by kernel_rfl) (op_call (by kernel_rfl)) (m_cmp_Compare_ok N _ ((ix q0 p0).ID) ((ix q0 p1).ID)  q M) ?_
  rintro x X ⟨Y, rfl, y⟩
  replace y := t.call y
  refine ⟨_, rfl, (hsub [] (by kernel_rfl) rfl _ y), ?_⟩
  refine wh_ready [22] (by kernel_rfl) rfl ⟨?_, trivial⟩
  refine ws_sliceN 28 (el := 3) (sz := 1) (bytes := 8) (enc := encI) [r7, q] rfl (by kernel_rfl) (by kernel_rfl) encI_len rfl ⟨rfl, rfl, ⟨rfl, rfl, trivial⟩⟩ (by kernel_rfl) (by kernel_rfl) y ?_
  intro J K L Z z
  refine ⟨(hsub [] (by kernel_rfl) rfl _ z), ?_⟩
  refine wh_strong (Hs w0 [ownE 3 1 encI J K L ([r7, q])]) (fun w2 c2 => hsub [] (by kernel_rfl) rfl w2 c2) <| wh_ready [23] (by kernel_rfl) rfl ⟨?_, trivial⟩
  refine ws_call 29 rfl (by kernel_rfl) (op_call (by kernel_rfl)) (m_cmp_Or_ok N _ ([r7, q]) J K L (z.own 0 rfl encI_len) (z.ownZ 0 rfl) C O) ?_
  rintro x a0 ⟨a1, rfl, i⟩
  replace i := z.call i
  refine ⟨_, rfl, (hsub [0] (by kernel_rfl) rfl _ i), ?_⟩
  refine wh_take 24 5 rfl (by kernel_rfl) (by kernel_rfl) (fun w2 c2 => (op_assign (v := .int .i64 _) rfl)) (hsub [0] (by kernel_rfl) rfl _ i) ?_
  exact wh_done () (by kernel_rfl) sq (hsub [] (by kernel_rfl) rfl _ i)
 intro G
 refine xm_next <| cm_ret ?_
 exact xm_retT rfl (by kernel_rfl) (show _ = Value.int .i64 _ from rfl) fun w1 c1 => ⟨(), rfl, hsub [] (by kernel_rfl) rfl w1 c1⟩
/-- emptying.sorted -/
def m_emptying_sorted (N : Nat) (p0 : (List ApiEmptying)) : Option ((List Int)) :=
 ck ((0 : Int) ≤ (List.length p0 : Int) ∧ Int.toNat (List.length p0 : Int) * 8 ≤ 140737488355328) (
  (andThen
   (loopM (fun (a : (List Int) × Int) =>
    (if a.2 < (List.length (List.replicate (Int.toNat (List.length p0 : Int)) (0 : Int)) : Int) then
     ck ((0 : Int) ≤ a.2 ∧ a.2 < (List.length a.1 : Int)) (
      ck (I64 (a.2 + (1 : Int))) (
       some (.next ((List.set a.1 (Int.toNat a.2) a.2), (a.2 + (1 : Int))))))
    else
     some (.done (.next a.1)))) N ((List.replicate (Int.toNat (List.length p0 : Int)) (0 : Int)), (0 : Int)))
  fun (b : (List Int)) =>
   ck (sortOk (fun x y => m_emptying_sorted_1 N x y p0) b ∧ List.length b < 4611686018427387904) (
    some ((sortO (fun x y => m_emptying_sorted_1 N x y p0) b)))))
set_option maxRecDepth 20000 in
theorem m_emptying_sorted_ok (N : Nat) (w0 : World) (p0 : (List ApiEmptying)) (a : Option Addr) (b : Nat) (d : Nat) (l : RdE w0 7 encApiEmptying a p0) (i : SW a b d (List.length p0)) (r : (List Int)) (hr : m_emptying_sorted N p0 = some r) :
  Ret Tryz.prog 117 [.slice a b d] w0 (fun (_r : (List Int)) (u : (Option Addr) × Nat × Nat) => .slice u.1 u.2.1 u.2.2) (fun (r : (List Int)) (u : (Option Addr) × Nat × Nat) => [ownE 3 1 encI u.1 u.2.1 u.2.2 r]) r := by
 refine calls_v (n := 22) r hr Tryz.func117 ?_
 unfold m_emptying_sorted
 refine sr <| lm_box 1 [.slice _ _ _] (by kernel_rfl) rfl ?_
 intro b5
 refine la 1 ((2, .slice _ _ _) :: _) rfl <| nn <| sr <| v_ 5 (fun _ c1 => oL (c1.cell 0 (u := .slice _ _ _) rfl rfl)) <| v_ 6 (fun _ _ => op_lenN rfl (by kernel_rfl) i.2.2) <| lm_ck (fun h6 => ?_)
 refine lm_make 7 (el := 3) (sz := 1) (bytes := 8) (enc := encI) (0 : Int) (zv := .int .i64 0) (by kernel_rfl) (by kernel_rfl) (by kernel_rfl) rfl encI_len rfl rfl h6.1 h6.2 (by kernel_rfl) ?_
 intro A7 n8 k9 z
 refine la 1 ((3, .slice _ _ _) :: _) rfl <| nn <| cm_join (σ := (List Int)) (ξ := Unit) (fun j m => [(1, .pointer (some ⟨b5, 0, none⟩)), (3, .slice A7 n8 k9)]) (fun j m => [blkE b5 25 [.slice a b d], ownE 3 1 encI A7 n8 k9 j]) ?_ ?_
 ·refine sr <| la 1 ((8, .slice _ _ _) :: _) rfl <| v_ 9 (fun _ c1 => op_lenN rfl (by kernel_rfl) (c1.ownZ 0 rfl).2.2) <| la 1 ((10, .int .i64 _) :: _) rfl <| nn <| cm_block <| cm_loop (σ := (List Int) × Int) (ξ := Unit) (fun f o => [(1, .pointer (some ⟨b5, 0, none⟩)), (3, .slice A7 n8 k9), (9, .int .i64 (List.length (List.replicate (Int.toNat (List.length p0 : Int)) (0 : Int)) : Int)), (10, .int .i64 f.2)]) (fun f o => [blkE b5 25 [.slice a b d], ownE 3 1 encI A7 n8 k9 f.1]) () ?_ ?_ ?_
  ·exact sq
  ·exact sh [1, 0]
  intro f o
  refine sr <| la 1 ((11, .bool _) :: _) rfl <| nn <| cm_seq <| cm_cond (by kernel_rfl) rfl (fun t => ?_) (fun t => ?_)
  ·refine sk <| cm_seq <| cm_block <| sr <| la 2 ((4, .int .i64 _) :: (12, .int .i64 _) :: _) rfl <| nn <| cm_region <| la 3 ((15, .int .i64 _) :: (14, .int .i64 _) :: (13, .slice _ _ _) :: _) rfl <| lm_ck (fun g => ?_)
   refine v_ 16 (fun _ c1 => oI 1 rfl rfl ((c1.own 1 rfl encI_len).addr g.1 g.2) (c1.ownZ 1 rfl).2.2 g) <| lm_storeIx 1 f.2 0 [.int .i64 _] (by kernel_rfl) rfl rfl (by kernel_rfl) rfl rfl rfl encI_len encI_one g.1 g.2 (by kernel_rfl) rfl <| lm_nil <| xm_inN <| xm_next <| cm_region <| lm_ck (fun v => ?_)
   refine v_ 17 (fun _ _ => op_add rfl rfl v) <| la 1 ((10, .int .i64 _) :: _) rfl <| lm_nil ?_
   exact xm_lnext () sq (sh [0, 1])
  ·refine cm_exit <| xm_thenE <| xm_lexit <| xm_here ?_
   exact xm_lnext () sq (sh [0, 1])
 intro j m
 refine sr <| la 1 ((18, .slice _ _ _) :: _) rfl <| v_ 19 (fun _ _ => op_makeFuncC [.pointer (some ⟨_, _, _⟩)] rfl) <| lm_ck (fun q => ?_)
 refine lm_callS 20 (by kernel_rfl) (fun w1 => op_call (by kernel_rfl)) (fun w1 c1 => sort1_own Tryz.sortInt encI (Value.int .i64) (fun _ => rfl) (fun _ => rfl) (fun x y => m_emptying_sorted_1 N x y p0) 144 3 [.pointer (some ⟨b5, 0, none⟩)] (enters_of Tryz.func144 (by kernel_rfl) rfl) 1 rfl q.1 q.2 c1 (fun s1 w2 c1 x y r hr => (@m_emptying_sorted_1_ok ⟨false⟩ N w2 x y p0 b5 a b d (c1.blk 0 rfl) (l.old c1) i r hr).mono fun e w3 ⟨_, he, hw⟩ => ⟨he, hw⟩)) <| nn <| sr <| la 2 ((2, .slice _ _ _) :: (21, .slice _ _ _) :: _) rfl <| nn <| cm_ret ?_
 exact xm_retT rfl (by kernel_rfl) (show _ = Value.slice _ _ _ from rfl) fun w1 c1 => ⟨(A7, n8, k9), rfl, hsub [1] (by kernel_rfl) rfl w1 c1⟩
/-- emptying.Counts -/
def m_emptying_Counts (N : Nat) (p0 : (List ApiEmptying)) (p1 : Int) : Option ((List Int) × Int) :=
 Option.bind (m_emptying_Check N p0 (256 : Int) (16 : Int)) fun r5 => (if r5 ≠ 0 then
  some ((([] : List Int), r5))
 else
  Option.bind (m_emptying_within N p1 (0 : Int) (86400 : Int)) fun r8 => (if (!r8) = true then
   some ((([] : List Int), (1 : Int)))
  else
   (andThen
    (Option.bind (m_emptying_sorted N p0) fun b => (loopM (fun (a : (List (Int × Int)) × (List Int) × Int) =>
     (if a.2.2 < (List.length b : Int) then
      (andThen
       (ck ((0 : Int) ≤ a.2.2 ∧ a.2.2 < (List.length b : Int)) (
        ck ((0 : Int) ≤ (ix b a.2.2) ∧ (ix b a.2.2) < (List.length p0 : Int)) (
         ck (I64 ((ix p0 (ix b a.2.2)).Container)) (
          ck (((!((ix p0 (ix b a.2.2)).Void)) && (Option.isSome (mget a.1 ((ix p0 (ix b a.2.2)).Container)))) = true → I64 (((ix p0 (ix b a.2.2)).At) - (Option.getD (mget a.1 ((ix p0 (ix b a.2.2)).Container)) (0 : Int)))) (
           (if (((ix p0 (ix b a.2.2)).Void) || ((Option.isSome (mget a.1 ((ix p0 (ix b a.2.2)).Container))) && (decide ((((ix p0 (ix b a.2.2)).At) - (Option.getD (mget a.1 ((ix p0 (ix b a.2.2)).Container)) (0 : Int))) ≤ p1)))) = true then
            some (.next (a.1, a.2.1))
           else
            ck (I64 ((ix p0 (ix b a.2.2)).Container)) (
             ck ((List.length a.2.1 + List.length ([(ix b a.2.2)])) * 8 ≤ 140737488355328) (
              some (.next ((mput a.1 ((ix p0 (ix b a.2.2)).Container) ((ix p0 (ix b a.2.2)).At)), (a.2.1 ++ ([(ix b a.2.2)]))))))))))))
      fun (d : (List (Int × Int)) × (List Int)) =>
       ck (I64 (a.2.2 + (1 : Int))) (
        some (.next (d.1, d.2, (a.2.2 + (1 : Int))))))
     else
      some (.done (.next a.2.1)))) N (([] : (List (Int × Int))), ([] : List Int), (0 : Int))))
   fun (e : (List Int)) =>
    some ((e, (0 : Int))))))
set_option maxHeartbeats 2000000 in
set_option maxRecDepth 20000 in
theorem m_emptying_Counts_ok (N : Nat) (w0 : World) (p0 : (List ApiEmptying)) (p1 : Int) (j : Option Addr) (m : Nat) (o : Nat) (q : RdE w0 7 encApiEmptying j p0) (B : SW j m o (List.length p0)) (r : (List Int) × Int) (hr : m_emptying_Counts N p0 p1 = some r) :
  Ret Tryz.prog 60 [.slice j m o, .int .i64 p1] w0 (fun (r : (List Int) × Int) (u : (Option Addr) × Nat × Nat) => .tuple #[.slice u.1 u.2.1 u.2.2, .int .i64 r.2]) (fun (r : (List Int) × Int) (u : (Option Addr) × Nat × Nat) => [ownE 3 1 encI u.1 u.2.1 u.2.2 r.1]) r := by
 refine calls_v (n := 65) r hr Tryz.func60 ?_
 unfold m_emptying_Counts
 refine sr <| la 2 ((5, .int .i64 _) :: (4, .slice _ _ _) :: _) rfl <| nn <| cm_seq <| sr <| la 1 ((14, .slice _ _ _) :: _) rfl <| lm_call 15 (V := (fun (r : Int) (_u : Unit) => .int .i64 r)) (HR := (fun (_r : Int) (_u : Unit) => [])) (by kernel_rfl) (fun w1 => op_call (by kernel_rfl)) (fun r1 hr1 w1 c1 => m_emptying_Check_ok N w1 p0 (256 : Int) (16 : Int) j m o (q.old c1) B r1 hr1) ?_
 intro r5 u6
 refine la 1 ((6, .int .i64 _) :: _) rfl <| nn <| sr <| la 2 ((17, .bool _) :: (16, .int .i64 _) :: _) rfl <| nn <| cm_cond (by kernel_rfl) rfl (fun h7 => ?_) (fun h7 => ?_)
 ·refine sr <| la 3 ((5, .int .i64 _) :: (4, .slice _ _ _) :: (18, .int .i64 _) :: _) rfl <| nn <| cm_ret <| xm_thenR <| xm_nilrow 3 1 encI ?_
  exact xm_retTT rfl (by kernel_rfl) (show _ = Value.slice _ _ _ from rfl) (by kernel_rfl) (show _ = Value.int .i64 _ from rfl) fun w1 c1 => ⟨(none, 0, 0), rfl, hsub [0] (by kernel_rfl) rfl w1 c1⟩
 ·refine sk <| cm_seq <| sr <| la 1 ((19, .int .i64 _) :: _) rfl <| lm_call 20 (V := (fun (r : Bool) (_u : Unit) => .bool r)) (HR := (fun (_r : Bool) (_u : Unit) => [])) (by kernel_rfl) (fun w1 => op_call (by kernel_rfl)) (fun r1 hr1 w1 c1 => m_emptying_within_ok N w1 p1 (0 : Int) (86400 : Int)  r1 hr1) ?_
  intro r8 u9
  refine la 1 ((21, .bool _) :: _) rfl <| nn <| cm_condB (by kernel_rfl) rfl (fun a2 => ?_) (fun a2 => ?_)
  ·refine sr <| la 2 ((5, .int .i64 _) :: (4, .slice _ _ _) :: _) rfl <| nn <| cm_ret <| xm_thenR <| xm_nilrow 3 1 encI ?_
   exact xm_retTT rfl (by kernel_rfl) (show _ = Value.slice _ _ _ from rfl) (by kernel_rfl) (show _ = Value.int .i64 _ from rfl) fun w1 c1 => ⟨(none, 0, 0), rfl, hsub [0] (by kernel_rfl) rfl w1 c1⟩
  ·refine sk <| sr <| lm_makeMap (κ := Int) (α := Int) 22 3 (Value.int .i64) (Value.int .i64) (by kernel_rfl) ?_
   intro K
   refine la 1 ((7, .map (some _)) :: _) rfl <| nn <| sr <| la 1 ((8, .slice _ _ _) :: _) rfl <| nn <| cm_join (σ := (List Int)) (ξ := (Option Addr) × Nat × Nat) (fun J g => [(8, .slice g.1 g.2.1 g.2.2)]) (fun J g => [ownE 3 1 encI g.1 g.2.1 g.2.2 J]) ?_ ?_
   ·refine sr <| la 1 ((23, .slice _ _ _) :: _) rfl <| lm_call 24 (V := (fun (_r : (List Int)) (u : (Option Addr) × Nat × Nat) => .slice u.1 u.2.1 u.2.2)) (HR := (fun (r : (List Int)) (u : (Option Addr) × Nat × Nat) => [ownE 3 1 encI u.1 u.2.1 u.2.2 r])) (by kernel_rfl) (fun w1 => op_call (by kernel_rfl)) (fun r1 hr1 w1 c1 => m_emptying_sorted_ok N w1 p0 j m o (q.old c1) B r1 hr1) ?_
    intro d f
    refine v_ 25 (fun _ c1 => op_lenN rfl (by kernel_rfl) (c1.ownZ 0 rfl).2.2) <| la 1 ((26, .int .i64 _) :: _) rfl <| nn <| cm_block <| cm_nilrow 3 1 encI <| cm_loop (σ := (List (Int × Int)) × (List Int) × Int) (ξ := (Option Addr) × Nat × Nat) (fun b e => [(0, .slice j m o), (1, .int .i64 p1), (7, .map (some K)), (8, .slice e.1 e.2.1 e.2.2), (24, .slice f.1 f.2.1 f.2.2), (25, .int .i64 (List.length d : Int)), (26, .int .i64 b.2.2)]) (fun b e => [mapE Tryz.prog 3 (Value.int .i64) (Value.int .i64) K b.1, ownE 3 1 encI e.1 e.2.1 e.2.2 b.2.1, ownE 3 1 encI f.1 f.2.1 f.2.2 d]) (none, 0, 0) ?_ ?_ ?_
    ·exact sq
    ·exact sh [2, 0, 1]
    intro b e
    refine sr <| la 1 ((27, .bool _) :: _) rfl <| nn <| cm_seq <| cm_cond (by kernel_rfl) rfl (fun L => ?_) (fun L => ?_)
    ·refine sk <| cm_join (σ := (List (Int × Int)) × (List Int)) (ξ := (Option Addr) × Nat × Nat) (fun C i => [(0, .slice j m o), (1, .int .i64 p1), (7, .map (some K)), (8, .slice i.1 i.2.1 i.2.2), (24, .slice f.1 f.2.1 f.2.2), (25, .int .i64 (List.length d : Int)), (26, .int .i64 b.2.2)]) (fun C i => [mapE Tryz.prog 3 (Value.int .i64) (Value.int .i64) K C.1, ownE 3 1 encI i.1 i.2.1 i.2.2 C.2, ownE 3 1 encI f.1 f.2.1 f.2.2 d]) ?_ ?_
     ·refine cm_block <| sr <| lm_ck (fun t => ?_)
      refine v_ 28 (fun _ c1 => oI 1 rfl rfl ((c1.own 2 rfl encI_len).addr t.1 t.2) (c1.ownZ 2 rfl).2.2 t) <| v_ 29 (fun _ c1 => oL (v := .int .i64 (ix d b.2.2)) ((c1.own 2 rfl encI_len).cell0 t.1 t.2 rfl)) <| la 1 ((10, .int .i64 _) :: _) rfl <| nn <| sr <| la 2 ((31, .int .i64 _) :: (30, .slice _ _ _) :: _) rfl <| lm_ck (fun x => ?_)
      refine v_ 32 (fun _ c1 => oI 7 rfl rfl ((q.old c1).addr x.1 x.2) B.2.2 x) <| v_ 33 (fun _ c1 => oR [.int .i64 ((ix p0 (ix d b.2.2)).ID), .int .i64 ((ix p0 (ix d b.2.2)).Container), .int .i64 ((ix p0 (ix d b.2.2)).Vehicle), .int .i64 ((ix p0 (ix d b.2.2)).At), .int .i64 ((ix p0 (ix d b.2.2)).Mass.Lo), .int .i64 ((ix p0 (ix d b.2.2)).Mass.Hi), .bool ((ix p0 (ix d b.2.2)).Void)] ((q.old c1).row x.1 x.2)) <| lm_alloc 11 [.int .i64 0, .int .i64 0, .int .i64 0, .int .i64 0, .int .i64 0, .int .i64 0, .bool false] (v := .agg #[.int .i64 0, .int .i64 0, .int .i64 0, .int .i64 0, .int .i64 0, .int .i64 0, .bool false]) (by kernel_rfl) (by kernel_rfl) rfl ?_
      intro a3
      refine lm_storeA 0 [.int .i64 _, .int .i64 _, .int .i64 _, .int .i64 _, .int .i64 _, .int .i64 _, .bool _] [_, _, _, _, _, _, _] (H' := [blkE _ _ [_, _, _, _, _, _, _], _, _, _]) (by kernel_rfl) rfl rfl (by kernel_rfl) rfl rfl (by kernel_rfl) rfl rfl <| nn <| sr <| la 1 ((35, .map (some _)) :: _) rfl <| v_ 36 (fun _ _ => oF 1 1 rfl) <| v_ 37 (fun _ c1 => oL (c1.cell 0 (u := .int .i64 _) rfl rfl)) <| lm_ck (fun M => ?_)
      refine v_ 38 (fun _ c1 => op_lookupOk (κ := Int) (α := Int) (ek := (Value.int .i64)) (ev := (Value.int .i64)) (l := b.1) (y := ((ix p0 (ix d b.2.2)).Container)) (0 : Int) rfl rfl (Maps.int_keyed Tryz.underlying3) (ek_int .i64) (key_i64 Tryz.underlying3 M) Tryz.underlying177 rfl (c1.map 1 rfl)) <| la 5 ((13, .bool _) :: (12, .int .i64 _) :: (40, .bool _) :: (39, .int .i64 _) :: (34, .tuple _) :: _) rfl <| nn <| cm_seq <| cm_seq <| cm_ck (fun O => ?_)
      refine cm_cutE [(53, .bool (((ix p0 (ix d b.2.2)).Void) || ((Option.isSome (mget b.1 ((ix p0 (ix d b.2.2)).Container))) && (decide ((((ix p0 (ix d b.2.2)).At) - (Option.getD (mget b.1 ((ix p0 (ix d b.2.2)).Container)) (0 : Int))) ≤ p1)))))] ?_ ?_
      ·refine q_ 41 (fun _ _ => oF 6 6 rfl) <| wq_bool 42 (by kernel_rfl) (fun w1 c1 => (op_load rfl (by kernel_rfl) (c1.cell 0 (u := .bool _) rfl rfl))) (fun z => ?_) (fun z => ?_)
       ·refine qa 11 ((53, .bool true) :: (52, undef) :: (51, undef) :: (50, undef) :: (49, undef) :: (48, undef) :: (47, undef) :: (46, undef) :: (45, undef) :: (44, undef) :: (43, .bool true) :: _) rfl ?_
        exact leaf_q (sub_out 13 _ rfl (by kernel_rfl) ⟨(congrArg Value.bool (by rw [z] <;> rfl)), trivial⟩)
       ·refine qa 1 ((43, .bool false) :: _) rfl <| wq_bool 44 (by kernel_rfl) (fun w1 c1 => (op_move (v := .bool _) rfl)) (fun G => ?_) (fun G => ?_)
        ·refine qa 1 ((45, .bool true) :: _) rfl <| q_ 46 (fun _ _ => oF 3 3 rfl) <| q_ 47 (fun _ c1 => oL (c1.cell 0 (u := .int .i64 _) rfl rfl)) <| qa 1 ((48, .int .i64 _) :: _) rfl <| q_ 49 (fun _ _ => op_sub rfl rfl (O (by rw [z, G] <;> rfl))) <| qa 4 ((53, .bool _) :: (52, .bool _) :: (51, .bool _) :: (50, .int .i64 _) :: _) rfl ?_
         exact leaf_q (sub_out 13 _ rfl (by kernel_rfl) ⟨(congrArg Value.bool (by rw [z, G] <;> rfl)), trivial⟩)
        ·refine qa 9 ((53, .bool false) :: (52, .bool false) :: (51, undef) :: (50, undef) :: (49, undef) :: (48, undef) :: (47, undef) :: (46, undef) :: (45, .bool false) :: _) rfl ?_
         exact leaf_q (sub_out 13 _ rfl (by kernel_rfl) ⟨(congrArg Value.bool (by rw [z, G] <;> rfl)), trivial⟩)
      refine xm_next <| cm_condB (by kernel_rfl) rfl (fun Q => ?_) (fun Q => ?_)
      ·refine cm_exit <| xm_thenE <| xm_here ?_
       exact xm_lnext (e.1, e.2.1, e.2.2) sq (sh [1, 2, 3])
      ·refine sk <| sr <| la 1 ((54, .map (some _)) :: _) rfl <| v_ 55 (fun _ _ => oF 1 1 rfl) <| v_ 56 (fun _ c1 => oL (c1.cell 0 (u := .int .i64 _) rfl rfl)) <| v_ 57 (fun _ _ => oF 3 3 rfl) <| v_ 58 (fun _ c1 => oL (c1.cell 0 (u := .int .i64 _) rfl rfl)) <| lm_ck (fun U => ?_)
       refine lm_mapUpdate 1 (κ := Int) (α := Int) (ek := (Value.int .i64)) (ev := (Value.int .i64)) (l := b.1) (y := ((ix p0 (ix d b.2.2)).Container)) (a := ((ix p0 (ix d b.2.2)).At)) (by kernel_rfl) rfl rfl rfl (Maps.int_keyed Tryz.underlying3) (ek_int .i64) (key_i64 Tryz.underlying3 U) Tryz.underlying177 rfl rfl <| nn <| cm_region <| la 2 ((60, .int .i64 _) :: (59, .slice _ _ _) :: _) rfl <| lm_slice1 61 (el := 3) (sz := 1) (bytes := 8) (enc := encI) (ix d b.2.2) (by kernel_rfl) (by kernel_rfl) encI_len rfl (by kernel_rfl) ?_
       intro a4 a5 a6 a7
       refine lm_ck (fun X => ?_)
       refine lm_append 62 3 (el := 3) (sz := 1) (bytes := 8) (enc := encI) (l2 := ([(ix d b.2.2)])) (by kernel_rfl) (by kernel_rfl) encI_len encI_one rfl rfl rfl (fun w1 c1 => (c1.ownZ 0 rfl)) (fun w1 c1 => (c1.own 0 rfl encI_len)) X ?_ (by kernel_rfl)
       intro Y Z a0
       refine la 1 ((8, .slice _ _ _) :: _) rfl <| lm_nil <| xm_inN ?_
       exact xm_lnext (Y, Z, a0) sq (sh [2, 3, 4])
     intro C i
     refine cm_region <| lm_ck (fun a1 => ?_)
     refine v_ 63 (fun _ _ => op_add rfl rfl a1) <| la 1 ((26, .int .i64 _) :: _) rfl <| lm_nil ?_
     exact xm_lnext (i.1, i.2.1, i.2.2) sq (sh [0, 1, 2])
    ·refine cm_exit <| xm_thenE <| xm_lexit <| xm_here ?_
     exact xm_lnext (e.1, e.2.1, e.2.2) sq (sh [1])
   intro J g
   refine sr <| la 3 ((5, .int .i64 _) :: (4, .slice _ _ _) :: (64, .slice _ _ _) :: _) rfl <| nn <| cm_ret ?_
   exact xm_retTT rfl (by kernel_rfl) (show _ = Value.slice _ _ _ from rfl) (by kernel_rfl) (show _ = Value.int .i64 _ from rfl) fun w1 c1 => ⟨(g.1, g.2.1, g.2.2), rfl, hsub [0] (by kernel_rfl) rfl w1 c1⟩
/-- emptying.window -/
def m_emptying_window (_N : Nat) (p0 : ApiWindow) : Option (Bool) :=
 some ((((decide (0 ≤ p0.From)) && (decide (p0.From ≤ p0.To))) && (decide (p0.To ≤ 3155760000))))
set_option maxRecDepth 20000 in
theorem m_emptying_window_ok (N : Nat) (w0 : World) (p0 : ApiWindow)   (r : Bool) (hr : m_emptying_window N p0 = some r) :
  Ret Tryz.prog 61 [.agg #[.int .i64 p0.From, .int .i64 p0.To]] w0 (fun (r : Bool) (_u : Unit) => .bool r) (fun (_r : Bool) (_u : Unit) => []) r := by
 refine calls_v (n := 18) r hr Tryz.func61 ?_
 unfold m_emptying_window
 refine sr <| lm_box 1 [.int .i64 _, .int .i64 _] (by kernel_rfl) rfl ?_
 intro b5
 refine la 1 ((2, .bool false) :: _) rfl <| nn <| cm_seq <| cm_cutE [(2, .bool (((decide (0 ≤ p0.From)) && (decide (p0.From ≤ p0.To))) && (decide (p0.To ≤ 3155760000))))] ?_ ?_
 ·refine q_ 3 (fun _ _ => oF 0 0 rfl) <| q_ 4 (fun _ c1 => oL (c1.cell 0 (u := .int .i64 _) rfl rfl)) <| qd 5 (fun _ _ => op_leq rfl rfl) (fun h6 => ?_) (fun h6 => ?_)
  ·refine qa 1 ((6, .bool true) :: _) rfl <| q_ 7 (fun _ _ => oF 0 0 rfl) <| q_ 8 (fun _ c1 => oL (c1.cell 0 (u := .int .i64 _) rfl rfl)) <| q_ 9 (fun _ _ => oF 1 1 rfl) <| q_ 10 (fun _ c1 => oL (c1.cell 0 (u := .int .i64 _) rfl rfl)) <| qd 11 (fun _ _ => op_leq rfl rfl) (fun h7 => ?_) (fun h7 => ?_)
   ·refine qa 2 ((13, .bool true) :: (12, .bool true) :: _) rfl <| q_ 14 (fun _ _ => oF 1 1 rfl) <| q_ 15 (fun _ c1 => oL (c1.cell 0 (u := .int .i64 _) rfl rfl)) <| qa 3 ((2, .bool _) :: (17, .bool _) :: (16, .bool _) :: _) rfl ?_
    exact leaf_q (sub_out 16 _ rfl (by kernel_rfl) ⟨(congrArg Value.bool (by rw [decide_eq_true h6, decide_eq_true h7] <;> rfl)), trivial⟩)
   ·refine qa 7 ((2, .bool false) :: (17, .bool false) :: (16, undef) :: (15, undef) :: (14, undef) :: (13, .bool false) :: (12, .bool false) :: _) rfl ?_
    exact leaf_q (sub_out 16 _ rfl (by kernel_rfl) ⟨(congrArg Value.bool (by rw [decide_eq_true h6, decide_eq_false h7] <;> rfl)), trivial⟩)
  ·refine qa 13 ((2, .bool false) :: (17, .bool false) :: (16, undef) :: (15, undef) :: (14, undef) :: (13, .bool false) :: (12, .bool false) :: (11, undef) :: (10, undef) :: (9, undef) :: (8, undef) :: (7, undef) :: (6, .bool false) :: _) rfl ?_
   exact leaf_q (sub_out 16 _ rfl (by kernel_rfl) ⟨(congrArg Value.bool (by rw [decide_eq_false h6] <;> rfl)), trivial⟩)
 refine xm_next <| cm_ret ?_
 exact xm_retT rfl (by kernel_rfl) (show _ = Value.bool _ from rfl) fun w1 c1 => ⟨(), rfl, hsub [] (by kernel_rfl) rfl w1 c1⟩
/-- household.Owner$1 -/
def m_household_Owner_1 (_N : Nat) (p0 : ApiAssign) (q0 : Int) (q1 : Int) : Option (Bool) :=
 some ((((decide (p0.Container = q0)) && (decide (p0.When.From ≤ q1))) && (decide (q1 < p0.When.To))))
set_option maxRecDepth 20000 in
theorem m_household_Owner_1_ok (N : Nat) (w0 : World) (p0 : ApiAssign) (q0 : Int) (q1 : Int) (b : Nat) (d : Nat) (e : Blk w0 b 3 [.int .i64 q0]) (a : Blk w0 d 3 [.int .i64 q1]) (r : Bool) (hr : m_household_Owner_1 N p0 q0 q1 = some r) :
  Ret Tryz.prog 120 [.agg #[.int .i64 p0.Container, .int .i64 p0.Household, .int .i64 p0.When.From, .int .i64 p0.When.To], .pointer (some ⟨b, 0, none⟩), .pointer (some ⟨d, 0, none⟩)] w0 (fun (r : Bool) (_u : Unit) => .bool r) (fun (_r : Bool) (_u : Unit) => []) r := by
 refine calls_v (n := 23) r hr Tryz.func120 ?_
 unfold m_household_Owner_1
 refine sr <| lm_box 3 [.int .i64 _, .int .i64 _, .int .i64 _, .int .i64 _] (by kernel_rfl) rfl ?_
 intro b5
 refine la 1 ((4, .bool false) :: _) rfl <| nn <| cm_seq <| cm_cutE [(4, .bool (((decide (p0.Container = q0)) && (decide (p0.When.From ≤ q1))) && (decide (q1 < p0.When.To))))] ?_ ?_
 ·refine q_ 5 (fun _ _ => oF 0 0 rfl) <| q_ 6 (fun _ c1 => oL (c1.cell 0 (u := .int .i64 _) rfl rfl)) <| q_ 7 (fun _ c1 => oL (c1.ocell (e.at_ 0 (u := .int .i64 _) rfl))) <| qd 8 (fun _ _ => op_eql rfl rfl) (fun h6 => ?_) (fun h6 => ?_)
  ·refine qa 1 ((9, .bool true) :: _) rfl <| q_ 10 (fun _ _ => oF 2 2 rfl) <| q_ 11 (fun _ _ => oF 0 2 rfl) <| q_ 12 (fun _ c1 => oL (c1.cell 0 (u := .int .i64 _) rfl rfl)) <| q_ 13 (fun _ c1 => oL (c1.ocell (a.at_ 0 (u := .int .i64 _) rfl))) <| qd 14 (fun _ _ => op_leq rfl rfl) (fun h7 => ?_) (fun h7 => ?_)
   ·refine qa 2 ((16, .bool true) :: (15, .bool true) :: _) rfl <| q_ 17 (fun _ c1 => oL (c1.ocell (a.at_ 0 (u := .int .i64 _) rfl))) <| q_ 18 (fun _ _ => oF 2 2 rfl) <| q_ 19 (fun _ _ => oF 1 3 rfl) <| q_ 20 (fun _ c1 => oL (c1.cell 0 (u := .int .i64 _) rfl rfl)) <| qa 3 ((4, .bool _) :: (22, .bool _) :: (21, .bool _) :: _) rfl ?_
    exact leaf_q (sub_out 19 _ rfl (by kernel_rfl) ⟨(congrArg Value.bool (by rw [decide_eq_true h6, decide_eq_true h7] <;> rfl)), trivial⟩)
   ·refine qa 9 ((4, .bool false) :: (22, .bool false) :: (21, undef) :: (20, undef) :: (19, undef) :: (18, undef) :: (17, undef) :: (16, .bool false) :: (15, .bool false) :: _) rfl ?_
    exact leaf_q (sub_out 19 _ rfl (by kernel_rfl) ⟨(congrArg Value.bool (by rw [decide_eq_true h6, decide_eq_false h7] <;> rfl)), trivial⟩)
  ·refine qa 15 ((4, .bool false) :: (22, .bool false) :: (21, undef) :: (20, undef) :: (19, undef) :: (18, undef) :: (17, undef) :: (16, .bool false) :: (15, .bool false) :: (14, undef) :: (13, undef) :: (12, undef) :: (11, undef) :: (10, undef) :: (9, .bool false) :: _) rfl ?_
   exact leaf_q (sub_out 19 _ rfl (by kernel_rfl) ⟨(congrArg Value.bool (by rw [decide_eq_false h6] <;> rfl)), trivial⟩)
 refine xm_next <| cm_ret ?_
 exact xm_retT rfl (by kernel_rfl) (show _ = Value.bool _ from rfl) fun w1 c1 => ⟨(), rfl, hsub [] (by kernel_rfl) rfl w1 c1⟩
/-- household.chosen -/
def m_household_chosen_household_Owner_1 (N : Nat) (p0 : (List ApiAssign)) (p1c0 : Int) (p1c1 : Int) : Option ((List ApiAssign)) :=
 (andThen
  (loopM (fun (a : (List ApiAssign) × Int) =>
   (if a.2 < (List.length p0 : Int) then
    (andThen
     (ck ((0 : Int) ≤ a.2 ∧ a.2 < (List.length p0 : Int)) (
      Option.bind (m_household_Owner_1 N (ix p0 a.2) p1c0 p1c1) fun b => (if b = true then
       ck ((List.length a.1 + List.length ([(ix p0 a.2)])) * 32 ≤ 140737488355328) (
        some (.next (a.1 ++ ([(ix p0 a.2)]))))
      else
       some (.next a.1))))
    fun (d : (List ApiAssign)) =>
     ck (I64 (a.2 + (1 : Int))) (
      some (.next (d, (a.2 + (1 : Int))))))
   else
    some (.done (.next a.1)))) N (([] : List ApiAssign), (0 : Int)))
 fun (e : (List ApiAssign)) =>
  some (e))
set_option maxRecDepth 20000 in
theorem m_household_chosen_household_Owner_1_ok (N : Nat) (w0 : World) (p0 : (List ApiAssign)) (p1c0 : Int) (p1c1 : Int) (i : Option Addr) (l : Nat) (m : Nat) (f : Nat) (g : Nat) (t : RdE w0 4 encApiAssign i p0) (x : SW i l m (List.length p0)) (y : Blk w0 f 3 [.int .i64 p1c0]) (z : Blk w0 g 3 [.int .i64 p1c1]) (r : (List ApiAssign)) (hr : m_household_chosen_household_Owner_1 N p0 p1c0 p1c1 = some r) :
  Ret Tryz.prog 119 [.slice i l m, .func (.func 120) #[] #[.pointer (some ⟨f, 0, none⟩), .pointer (some ⟨g, 0, none⟩)]] w0 (fun (_r : (List ApiAssign)) (u : (Option Addr) × Nat × Nat) => .slice u.1 u.2.1 u.2.2) (fun (r : (List ApiAssign)) (u : (Option Addr) × Nat × Nat) => [ownE 133 4 encApiAssign u.1 u.2.1 u.2.2 r]) r := by
 refine calls_v (n := 23) r hr Tryz.func119 ?_
 unfold m_household_chosen_household_Owner_1
 refine sr <| la 1 ((4, .slice _ _ _) :: _) rfl <| nn <| sr <| la 1 ((5, .slice _ _ _) :: _) rfl <| nn <| cm_join (σ := (List ApiAssign)) (ξ := (Option Addr) × Nat × Nat) (fun o d => [(5, .slice d.1 d.2.1 d.2.2)]) (fun o d => [ownE 133 4 encApiAssign d.1 d.2.1 d.2.2 o]) ?_ ?_
 ·refine sr <| la 1 ((8, .slice _ _ _) :: _) rfl <| v_ 9 (fun _ _ => op_lenN rfl (by kernel_rfl) x.2.2) <| la 1 ((10, .int .i64 _) :: _) rfl <| nn <| cm_block <| cm_nilrow 133 4 encApiAssign <| cm_loop (σ := (List ApiAssign) × Int) (ξ := (Option Addr) × Nat × Nat) (fun b a => [(1, .func (.func 120) #[] #[.pointer (some ⟨f, 0, none⟩), .pointer (some ⟨g, 0, none⟩)]), (5, .slice a.1 a.2.1 a.2.2), (8, .slice i l m), (9, .int .i64 (List.length p0 : Int)), (10, .int .i64 b.2)]) (fun b a => [ownE 133 4 encApiAssign a.1 a.2.1 a.2.2 b.1]) (none, 0, 0) ?_ ?_ ?_
  ·exact sq
  ·exact sh [0]
  intro b a
  refine sr <| la 1 ((11, .bool _) :: _) rfl <| nn <| cm_seq <| cm_cond (by kernel_rfl) rfl (fun B => ?_) (fun B => ?_)
  ·refine sk <| cm_join (σ := (List ApiAssign)) (ξ := (Option Addr) × Nat × Nat) (fun q e => [(1, .func (.func 120) #[] #[.pointer (some ⟨f, 0, none⟩), .pointer (some ⟨g, 0, none⟩)]), (5, .slice e.1 e.2.1 e.2.2), (8, .slice i l m), (9, .int .i64 (List.length p0 : Int)), (10, .int .i64 b.2)]) (fun q e => [ownE 133 4 encApiAssign e.1 e.2.1 e.2.2 q]) ?_ ?_
   ·refine cm_block <| sr <| lm_ck (fun j => ?_)
    refine v_ 12 (fun _ c1 => oI 4 rfl rfl ((t.old c1).addr j.1 j.2) x.2.2 j) <| v_ 13 (fun _ c1 => oR [.int .i64 ((ix p0 b.2).Container), .int .i64 ((ix p0 b.2).Household), .int .i64 ((ix p0 b.2).When.From), .int .i64 ((ix p0 b.2).When.To)] ((t.old c1).row j.1 j.2)) <| lm_alloc 7 [.int .i64 0, .int .i64 0, .int .i64 0, .int .i64 0] (v := .agg #[.int .i64 0, .int .i64 0, .int .i64 0, .int .i64 0]) (by kernel_rfl) (by kernel_rfl) rfl ?_
    intro O
    refine lm_storeA 0 [.int .i64 _, .int .i64 _, .int .i64 _, .int .i64 _] [_, _, _, _] (H' := [blkE _ _ [_, _, _, _], _]) (by kernel_rfl) rfl rfl (by kernel_rfl) rfl rfl (by kernel_rfl) rfl rfl <| nn <| sr <| la 1 ((14, .func _ _ _) :: _) rfl <| v_ 15 (fun _ c1 => oR [.int .i64 _, .int .i64 _, .int .i64 _, .int .i64 _] (c1.cells 0 rfl rfl)) <| lm_call 16 (V := (fun (r : Bool) (_u : Unit) => .bool r)) (HR := (fun (_r : Bool) (_u : Unit) => [])) (by kernel_rfl) (fun w1 => op_callv rfl (by kernel_rfl)) (fun r1 hr1 w1 c1 => m_household_Owner_1_ok N w1 (ix p0 b.2) p1c0 p1c1 f g (c1.oblk y) (c1.oblk z) r1 hr1) ?_
    intro Q U
    refine nn <| cm_condB (by kernel_rfl) rfl (fun C => ?_) (fun C => ?_)
    ·refine cm_region <| la 1 ((17, .slice _ _ _) :: _) rfl <| v_ 18 (fun _ c1 => oR [.int .i64 _, .int .i64 _, .int .i64 _, .int .i64 _] (c1.cells 0 rfl rfl)) <| lm_slice1 19 (el := 133) (sz := 4) (bytes := 32) (enc := encApiAssign) (ix p0 b.2) (by kernel_rfl) (by kernel_rfl) encApiAssign_len rfl (by kernel_rfl) ?_
     intro X Y Z a0
     refine lm_ck (fun G => ?_)
     refine lm_append 20 2 (el := 133) (sz := 4) (bytes := 32) (enc := encApiAssign) (l2 := ([(ix p0 b.2)])) (by kernel_rfl) (by kernel_rfl) encApiAssign_len encApiAssign_one rfl rfl rfl (fun w1 c1 => (c1.ownZ 0 rfl)) (fun w1 c1 => (c1.own 0 rfl encApiAssign_len)) G ?_ (by kernel_rfl)
     intro J K L
     refine la 1 ((5, .slice _ _ _) :: _) rfl <| lm_nil <| xm_inN ?_
     exact xm_lnext (J, K, L) sq (sh [2])
    ·refine cm_skip <| xm_inN ?_
     exact xm_lnext (a.1, a.2.1, a.2.2) sq (sh [1])
   intro q e
   refine cm_region <| lm_ck (fun M => ?_)
   refine v_ 21 (fun _ _ => op_add rfl rfl M) <| la 1 ((10, .int .i64 _) :: _) rfl <| lm_nil ?_
   exact xm_lnext (e.1, e.2.1, e.2.2) sq (sh [0])
  ·refine cm_exit <| xm_thenE <| xm_lexit <| xm_here ?_
   exact xm_lnext (a.1, a.2.1, a.2.2) sq (sh [0])
 intro o d
 refine sr <| la 2 ((4, .slice _ _ _) :: (22, .slice _ _ _) :: _) rfl <| nn <| cm_ret ?_
 exact xm_retT rfl (by kernel_rfl) (show _ = Value.slice _ _ _ from rfl) fun w1 c1 => ⟨(d.1, d.2.1, d.2.2), rfl, hsub [0] (by kernel_rfl) rfl w1 c1⟩
/-- household.Owner -/
def m_household_Owner (N : Nat) (p0 : (List ApiAssign)) (p1 : Int) (p2 : Int) : Option (Int × Bool) :=
 Option.bind (m_household_chosen_household_Owner_1 N p0 p1 p2) fun r7 => (if (List.length r7 : Int) = 0 then
  some (((0 : Int), false))
 else
  ck ((0 : Int) ≤ 0 ∧ 0 < (List.length r7 : Int)) (
   some (((ix r7 0).Household, true))))
set_option maxRecDepth 20000 in
theorem m_household_Owner_ok (N : Nat) (w0 : World) (p0 : (List ApiAssign)) (p1 : Int) (p2 : Int) (a : Option Addr) (d : Nat) (e : Nat) (f : RdE w0 4 encApiAssign a p0) (g : SW a d e (List.length p0)) (r : Int × Bool) (hr : m_household_Owner N p0 p1 p2 = some r) :
  Ret Tryz.prog 64 [.slice a d e, .int .i64 p1, .int .i64 p2] w0 (fun (r : Int × Bool) (_u : Unit) => .tuple #[.int .i64 r.1, .bool r.2]) (fun (_r : Int × Bool) (_u : Unit) => []) r := by
 refine calls_v (n := 19) r hr Tryz.func64 ?_
 unfold m_household_Owner
 refine sr <| lm_box 4 [.int .i64 _] (by kernel_rfl) rfl ?_
 intro b5
 refine lm_box 5 [.int .i64 _] (by kernel_rfl) rfl ?_
 intro b6
 refine la 2 ((7, .bool false) :: (6, .int .i64 _) :: _) rfl <| nn <| sr <| la 1 ((9, .slice _ _ _) :: _) rfl <| v_ 10 (fun _ _ => op_makeFuncC [.pointer (some ⟨_, _, _⟩), .pointer (some ⟨_, _, _⟩)] rfl) <| lm_call 11 (V := (fun (_r : (List ApiAssign)) (u : (Option Addr) × Nat × Nat) => .slice u.1 u.2.1 u.2.2)) (HR := (fun (r : (List ApiAssign)) (u : (Option Addr) × Nat × Nat) => [ownE 133 4 encApiAssign u.1 u.2.1 u.2.2 r])) (by kernel_rfl) (fun w1 => op_call (by kernel_rfl)) (fun r1 hr1 w1 c1 => m_household_chosen_household_Owner_1_ok N w1 p0 p1 p2 a d e b5 b6 (f.old c1) g (c1.blk 1 rfl) (c1.blk 0 rfl) r1 hr1) ?_
 intro r7 u8
 refine la 1 ((8, .slice _ _ _) :: _) rfl <| nn <| cm_seq <| sr <| la 1 ((12, .slice _ _ _) :: _) rfl <| v_ 13 (fun _ c1 => op_lenN rfl (by kernel_rfl) (c1.ownZ 0 rfl).2.2) <| la 1 ((14, .bool _) :: _) rfl <| nn <| cm_cond (by kernel_rfl) rfl (fun h9 => ?_) (fun h9 => ?_)
 ·refine sr <| la 2 ((7, .bool false) :: (6, .int .i64 _) :: _) rfl <| nn <| cm_ret <| xm_thenR ?_
  exact xm_retTT rfl (by kernel_rfl) (show _ = Value.int .i64 _ from rfl) (by kernel_rfl) (show _ = Value.bool false from rfl) fun w1 c1 => ⟨(), rfl, hsub [] (by kernel_rfl) rfl w1 c1⟩
 ·refine sk <| sr <| la 1 ((15, .slice _ _ _) :: _) rfl <| lm_ck (fun b => ?_)
  refine v_ 16 (fun _ c1 => oI 4 rfl rfl ((c1.own 0 rfl encApiAssign_len).addr b.1 b.2) (c1.ownZ 0 rfl).2.2 b) <| v_ 17 (fun _ _ => op_field (m := 1) rfl (by kernel_rfl)) <| v_ 18 (fun _ c1 => oL (v := .int .i64 ((ix r7 0).Household)) ((c1.own 0 rfl encApiAssign_len).cell (j := 1) b.1 b.2 rfl)) <| la 2 ((7, .bool true) :: (6, .int .i64 _) :: _) rfl <| nn <| cm_ret ?_
  exact xm_retTT rfl (by kernel_rfl) (show _ = Value.int .i64 _ from rfl) (by kernel_rfl) (show _ = Value.bool true from rfl) fun w1 c1 => ⟨(), rfl, hsub [] (by kernel_rfl) rfl w1 c1⟩
/-- emptying.in -/
def m_emptying_in (_N : Nat) (p0 : ApiWindow) (p1 : Int) : Option (Bool) :=
 some (((decide (p0.From ≤ p1)) && (decide (p1 < p0.To))))
set_option maxRecDepth 20000 in
theorem m_emptying_in_ok (N : Nat) (w0 : World) (p0 : ApiWindow) (p1 : Int)   (r : Bool) (hr : m_emptying_in N p0 p1 = some r) :
  Ret Tryz.prog 65 [.agg #[.int .i64 p0.From, .int .i64 p0.To], .int .i64 p1] w0 (fun (r : Bool) (_u : Unit) => .bool r) (fun (_r : Bool) (_u : Unit) => []) r := by
 refine calls_v (n := 15) r hr Tryz.func65 ?_
 unfold m_emptying_in
 refine sr <| lm_box 2 [.int .i64 _, .int .i64 _] (by kernel_rfl) rfl ?_
 intro b5
 refine la 1 ((4, .bool false) :: _) rfl <| nn <| cm_seq <| cm_cutE [(4, .bool ((decide (p0.From ≤ p1)) && (decide (p1 < p0.To))))] ?_ ?_
 ·refine q_ 5 (fun _ _ => oF 0 0 rfl) <| q_ 6 (fun _ c1 => oL (c1.cell 0 (u := .int .i64 _) rfl rfl)) <| qa 1 ((7, .int .i64 _) :: _) rfl <| qd 8 (fun _ _ => op_leq rfl rfl) (fun h6 => ?_) (fun h6 => ?_)
  ·refine qa 2 ((10, .int .i64 _) :: (9, .bool true) :: _) rfl <| q_ 11 (fun _ _ => oF 1 1 rfl) <| q_ 12 (fun _ c1 => oL (c1.cell 0 (u := .int .i64 _) rfl rfl)) <| qa 3 ((4, .bool _) :: (14, .bool _) :: (13, .bool _) :: _) rfl ?_
   exact leaf_q (sub_out 11 _ rfl (by kernel_rfl) ⟨(congrArg Value.bool (by rw [decide_eq_true h6] <;> rfl)), trivial⟩)
  ·refine qa 7 ((4, .bool false) :: (14, .bool false) :: (13, undef) :: (12, undef) :: (11, undef) :: (10, undef) :: (9, .bool false) :: _) rfl ?_
   exact leaf_q (sub_out 11 _ rfl (by kernel_rfl) ⟨(congrArg Value.bool (by rw [decide_eq_false h6] <;> rfl)), trivial⟩)
 refine xm_next <| cm_ret ?_
 exact xm_retT rfl (by kernel_rfl) (show _ = Value.bool _ from rfl) fun w1 c1 => ⟨(), rfl, hsub [] (by kernel_rfl) rfl w1 c1⟩
/-- emptying.Of$1 -/
def m_emptying_Of_1 (N : Nat) (p0 : Int) (q0 : (List ApiAssign)) (q1 : (List ApiEmptying)) (q2 : ApiWindow) (q3 : Int) : Option (Bool) :=
 ck ((0 : Int) ≤ p0 ∧ p0 < (List.length q1 : Int)) (
  ck ((0 : Int) ≤ p0 ∧ p0 < (List.length q1 : Int)) (
   Option.bind (m_household_Owner N q0 ((ix q1 p0).Container) ((ix q1 p0).At)) fun r7 => ck ((0 : Int) ≤ p0 ∧ p0 < (List.length q1 : Int)) (
    Option.bind (m_emptying_in N q2 ((ix q1 p0).At)) fun a => some ((((!a) || (!r7.2)) || (decide (r7.1 ≠ q3)))))))
set_option maxRecDepth 20000 in
theorem m_emptying_Of_1_ok (N : Nat) (w0 : World) (p0 : Int) (q0 : (List ApiAssign)) (q1 : (List ApiEmptying)) (q2 : ApiWindow) (q3 : Int) (t : Nat) (b : Option Addr) (e : Nat) (f : Nat) (x : Nat) (g : Option Addr) (l : Nat) (o : Nat) (y : Nat) (z : Nat) (J : Blk w0 t 24 [.slice b e f]) (B : RdE w0 4 encApiAssign b q0) (C : SW b e f (List.length q0)) (i : Blk w0 x 25 [.slice g l o]) (a : RdE w0 7 encApiEmptying g q1) (d : SW g l o (List.length q1)) (K : Blk w0 y 49 [.int .i64 q2.From, .int .i64 q2.To]) (L : Blk w0 z 3 [.int .i64 q3]) (r : Bool) (hr : m_emptying_Of_1 N p0 q0 q1 q2 q3 = some r) :
  Ret Tryz.prog 63 [.int .i64 p0, .pointer (some ⟨t, 0, none⟩), .pointer (some ⟨x, 0, none⟩), .pointer (some ⟨y, 0, none⟩), .pointer (some ⟨z, 0, none⟩)] w0 (fun (r : Bool) (_u : Unit) => .bool r) (fun (_r : Bool) (_u : Unit) => []) r := by
 refine calls_v (n := 41) r hr Tryz.func63 ?_
 unfold m_emptying_Of_1
 refine sr <| la 1 ((6, .bool false) :: _) rfl <| nn <| cm_seq <| cm_ck (fun h5 => ?_)
 refine cm_ck (fun h6 => ?_)
 refine cm_bind fun r7 h8 => cm_drawn [(7, .int .i64 r7.1), (8, .bool r7.2)] (by kernel_rfl) (by kernel_rfl) ?_ ?_
 ·refine q_ 10 (fun _ c1 => oL (c1.ocell (J.at_ 0 (u := .slice _ _ _) rfl))) <| q_ 11 (fun _ c1 => oL (c1.ocell (i.at_ 0 (u := .slice _ _ _) rfl))) <| qa 1 ((12, .int .i64 _) :: _) rfl <| q_ 13 (fun _ c1 => oI 7 rfl rfl ((a.old c1).addr h5.1 h5.2) d.2.2 h5) <| q_ 14 (fun _ _ => op_field (m := 1) rfl (by kernel_rfl)) <| q_ 15 (fun _ c1 => oL (v := .int .i64 ((ix q1 p0).Container)) ((a.old c1).cell (j := 1) h5.1 h5.2 rfl)) <| q_ 16 (fun _ c1 => oL (c1.ocell (i.at_ 0 (u := .slice _ _ _) rfl))) <| qa 1 ((17, .int .i64 _) :: _) rfl <| q_ 18 (fun _ c1 => oI 7 rfl rfl ((a.old c1).addr h6.1 h6.2) d.2.2 h6) <| q_ 19 (fun _ _ => op_field (m := 3) rfl (by kernel_rfl)) <| q_ 20 (fun _ c1 => oL (v := .int .i64 ((ix q1 p0).At)) ((a.old c1).cell (j := 3) h6.1 h6.2 rfl)) <| wq_call 21 (by kernel_rfl) (fun w1 c1 => op_call (by kernel_rfl)) (fun w1 c1 => (m_household_Owner_ok N w1 q0 ((ix q1 p0).Container) ((ix q1 p0).At) b e f (B.old c1) C r7 h8).mono (fun _ _ ⟨_, hx, hu⟩ => ⟨hx, c1.call hu⟩)) ?_
  refine qa 5 ((8, .bool _) :: (7, .int .i64 _) :: (23, .bool _) :: (22, .int .i64 _) :: (9, .tuple _) :: _) rfl ?_
  exact lq 17
 refine xm_next <| cm_seq <| cm_ck (fun h9 => ?_)
 refine cm_bind fun M O => cm_drawn [(6, .bool (((!M) || (!r7.2)) || (decide (r7.1 ≠ q3))))] (by kernel_rfl) (by kernel_rfl) ?_ ?_
 ·refine q_ 24 (fun _ c1 => oR [.int .i64 _, .int .i64 _] (c1.ocells K rfl)) <| q_ 25 (fun _ c1 => oL (c1.ocell (i.at_ 0 (u := .slice _ _ _) rfl))) <| qa 1 ((26, .int .i64 _) :: _) rfl <| q_ 27 (fun _ c1 => oI 7 rfl rfl ((a.old c1).addr h9.1 h9.2) d.2.2 h9) <| q_ 28 (fun _ _ => op_field (m := 3) rfl (by kernel_rfl)) <| q_ 29 (fun _ c1 => oL (v := .int .i64 ((ix q1 p0).At)) ((a.old c1).cell (j := 3) h9.1 h9.2 rfl)) <| wq_callb 30 (by kernel_rfl) (fun w1 c1 => op_call (by kernel_rfl)) (fun w1 c1 => (m_emptying_in_ok N w1 q2 ((ix q1 p0).At)  M O).mono (fun _ _ ⟨_, hx, hu⟩ => ⟨hx, c1.call hu⟩)) (fun q => ?_) (fun q => ?_)
  ·refine qa 2 ((32, .bool false) :: (31, .bool false) :: _) rfl <| wq_bool 33 (by kernel_rfl) (fun w1 c1 => (op_move (v := .bool _) rfl)) (fun G => ?_) (fun G => ?_)
   ·refine qa 4 ((37, .int .i64 _) :: (36, .bool false) :: (35, .bool false) :: (34, .bool false) :: _) rfl <| q_ 38 (fun _ c1 => oL (c1.ocell (L.at_ 0 (u := .int .i64 _) rfl))) <| qa 3 ((6, .bool _) :: (40, .bool _) :: (39, .bool _) :: _) rfl ?_
    exact leaf_q (sub_out 18 _ rfl (by kernel_rfl) ⟨(congrArg Value.bool (by rw [q, G] <;> rfl)), trivial⟩)
   ·refine qa 8 ((6, .bool true) :: (40, .bool true) :: (39, undef) :: (38, undef) :: (37, undef) :: (36, .bool true) :: (35, .bool true) :: (34, .bool true) :: _) rfl ?_
    exact leaf_q (sub_out 18 _ rfl (by kernel_rfl) ⟨(congrArg Value.bool (by rw [q, G] <;> rfl)), trivial⟩)
  ·refine qa 11 ((6, .bool true) :: (40, .bool true) :: (39, undef) :: (38, undef) :: (37, undef) :: (36, .bool true) :: (35, .bool true) :: (34, undef) :: (33, undef) :: (32, .bool true) :: (31, .bool true) :: _) rfl ?_
   exact leaf_q (sub_out 18 _ rfl (by kernel_rfl) ⟨(congrArg Value.bool (by rw [q] <;> rfl)), trivial⟩)
 refine xm_next <| cm_ret ?_
 exact xm_retT rfl (by kernel_rfl) (show _ = Value.bool _ from rfl) fun w1 c1 => ⟨(), rfl, hsub [] (by kernel_rfl) rfl w1 c1⟩
/-- slices.IndexFunc -/
def m_slices_IndexFunc_emptying_Of_1 (N : Nat) (p0 : (List Int)) (p1c0 : (List ApiAssign)) (p1c1 : (List ApiEmptying)) (p1c2 : ApiWindow) (p1c3 : Int) : Option (Int) :=
 (andThen
  (loopM (fun (a : Int) =>
   (if a < (List.length p0 : Int) then
    ck ((0 : Int) ≤ a ∧ a < (List.length p0 : Int)) (
     Option.bind (m_emptying_Of_1 N (ix p0 a) p1c0 p1c1 p1c2 p1c3) fun b => (if b = true then
      some (.done (.done (a)))
     else
      ck (I64 (a + (1 : Int))) (
       some (.next (a + (1 : Int))))))
   else
    some (.done (.next ())))) N (0 : Int))
 fun (_s29 : Unit) =>
  some ((-1 : Int)))
set_option maxRecDepth 20000 in
theorem m_slices_IndexFunc_emptying_Of_1_ok (N : Nat) (w0 : World) (p0 : (List Int)) (p1c0 : (List ApiAssign)) (p1c1 : (List ApiEmptying)) (p1c2 : ApiWindow) (p1c3 : Int) (o : Option Addr) (x : Nat) (y : Nat) (d : Nat) (a : Option Addr) (i : Nat) (j : Nat) (e : Nat) (b : Option Addr) (l : Nat) (m : Nat) (f : Nat) (g : Nat) (J : RdE w0 1 encI o p0) (K : SW o x y (List.length p0)) (L : Blk w0 d 24 [.slice a i j]) (z : RdE w0 4 encApiAssign a p1c0) (B : SW a i j (List.length p1c0)) (M : Blk w0 e 25 [.slice b l m]) (C : RdE w0 7 encApiEmptying b p1c1) (G : SW b l m (List.length p1c1)) (O : Blk w0 f 49 [.int .i64 p1c2.From, .int .i64 p1c2.To]) (Q : Blk w0 g 3 [.int .i64 p1c3]) (r : Int) (hr : m_slices_IndexFunc_emptying_Of_1 N p0 p1c0 p1c1 p1c2 p1c3 = some r) :
  Ret Tryz.prog 118 [.slice o x y, .func (.func 63) #[] #[.pointer (some ⟨d, 0, none⟩), .pointer (some ⟨e, 0, none⟩), .pointer (some ⟨f, 0, none⟩), .pointer (some ⟨g, 0, none⟩)]] w0 (fun (r : Int) (_u : Unit) => .int .i64 r) (fun (_r : Int) (_u : Unit) => []) r := by
 refine calls_v (n := 19) r hr Tryz.func118 ?_
 unfold m_slices_IndexFunc_emptying_Of_1
 refine sr <| la 1 ((4, .int .i64 _) :: _) rfl <| nn <| cm_join (σ := Unit) (ξ := Unit) (fun U X => []) (fun U X => []) ?_ ?_
 ·refine sr <| la 1 ((6, .slice _ _ _) :: _) rfl <| v_ 7 (fun _ _ => op_lenN rfl (by kernel_rfl) K.2.2) <| la 1 ((8, .int .i64 _) :: _) rfl <| nn <| cm_block <| cm_loop (σ := Int) (ξ := Unit) (fun q Y => [(0, .slice o x y), (1, .func (.func 63) #[] #[.pointer (some ⟨d, 0, none⟩), .pointer (some ⟨e, 0, none⟩), .pointer (some ⟨f, 0, none⟩), .pointer (some ⟨g, 0, none⟩)]), (7, .int .i64 (List.length p0 : Int)), (8, .int .i64 q)]) (fun q Y => []) () ?_ ?_ ?_
  ·exact sq
  ·exact sh []
  intro q Y
  refine sr <| la 1 ((9, .bool _) :: _) rfl <| nn <| cm_seq <| cm_cond (by kernel_rfl) rfl (fun Z => ?_) (fun Z => ?_)
  ·refine sk <| cm_seq <| cm_block <| sr <| la 2 ((5, .int .i64 _) :: (10, .int .i64 _) :: _) rfl <| nn <| sr <| la 3 ((13, .int .i64 _) :: (12, .slice _ _ _) :: (11, .func _ _ _) :: _) rfl <| lm_ck (fun t => ?_)
   refine v_ 14 (fun _ c1 => oI 1 rfl rfl ((J.old c1).addr t.1 t.2) K.2.2 t) <| v_ 15 (fun _ c1 => oL (v := .int .i64 (ix p0 q)) ((J.old c1).cell0 t.1 t.2 rfl)) <| lm_call 16 (V := (fun (r : Bool) (_u : Unit) => .bool r)) (HR := (fun (_r : Bool) (_u : Unit) => [])) (by kernel_rfl) (fun w1 => op_callv rfl (by kernel_rfl)) (fun r1 hr1 w1 c1 => m_emptying_Of_1_ok N w1 (ix p0 q) p1c0 p1c1 p1c2 p1c3 d a i j e b l m f g (c1.oblk L) (z.old c1) B (c1.oblk M) (C.old c1) G (c1.oblk O) (c1.oblk Q) r1 hr1) ?_
   intro a2 a3
   refine nn <| cm_condB (by kernel_rfl) rfl (fun a0 => ?_) (fun a0 => ?_)
   ·refine sr <| la 2 ((4, .int .i64 _) :: (17, .int .i64 _) :: _) rfl <| nn <| cm_ret <| xm_inR <| xm_thenR <| xm_lret <| xm_inR <| xm_lret ?_
    exact xm_retT rfl (by kernel_rfl) (show _ = Value.int .i64 _ from rfl) fun w1 c1 => ⟨(), rfl, hsub [] (by kernel_rfl) rfl w1 c1⟩
   ·refine cm_skip <| xm_inN <| xm_next <| cm_region <| lm_ck (fun a1 => ?_)
    refine v_ 18 (fun _ _ => op_add rfl rfl a1) <| la 1 ((8, .int .i64 _) :: _) rfl <| lm_nil ?_
    exact xm_lnext () sq (sh [])
  ·refine cm_exit <| xm_thenE <| xm_lexit <| xm_here ?_
   exact xm_lnext () sub_nil (sh [])
 intro U X
 refine sr <| la 1 ((4, .int .i64 _) :: _) rfl <| nn <| cm_ret ?_
 exact xm_retT rfl (by kernel_rfl) (show _ = Value.int .i64 _ from rfl) fun w1 c1 => ⟨(), rfl, hsub [] (by kernel_rfl) rfl w1 c1⟩
/-- slices.DeleteFunc -/
def m_slices_DeleteFunc (N : Nat) (p0 : (List Int)) (p1c0 : (List ApiAssign)) (p1c1 : (List ApiEmptying)) (p1c2 : ApiWindow) (p1c3 : Int) : Option ((List Int)) :=
 Option.bind (m_slices_IndexFunc_emptying_Of_1 N p0 p1c0 p1c1 p1c2 p1c3) fun d => (if d = -1 then
  some (p0)
 else
  (andThen
   (ck (I64 (d + (1 : Int))) (
    (loopM (fun (a : (List Int) × Int × Int) =>
     (if a.2.2 < (List.length a.1 : Int) then
      (andThen
       (ck ((0 : Int) ≤ a.2.2 ∧ a.2.2 < (List.length a.1 : Int)) (
        Option.bind (m_emptying_Of_1 N (ix a.1 a.2.2) p1c0 p1c1 p1c2 p1c3) fun f => (if (!f) = true then
         ck ((0 : Int) ≤ a.2.1 ∧ a.2.1 < (List.length a.1 : Int)) (
          ck (I64 (a.2.1 + (1 : Int))) (
           some (.next ((List.set a.1 (Int.toNat a.2.1) (ix a.1 a.2.2)), (a.2.1 + (1 : Int))))))
        else
         some (.next (a.1, a.2.1)))))
      fun (e : (List Int) × Int) =>
       ck (I64 (a.2.2 + (1 : Int))) (
        some (.next (e.1, e.2, (a.2.2 + (1 : Int))))))
     else
      some (.done (.next (a.1, a.2.1))))) N (p0, d, (d + (1 : Int))))))
  fun (b : (List Int) × Int) =>
   ck ((0 : Int) ≤ b.2 ∧ b.2 ≤ (List.length b.1 : Int)) (
    ck ((0 : Int) ≤ b.2 ∧ b.2 ≤ (List.length (clearAt b.1 (Int.toNat b.2) (0 : Int)) : Int)) (
     some ((List.take (Int.toNat b.2) (clearAt b.1 (Int.toNat b.2) (0 : Int))))))))
set_option maxHeartbeats 2000000 in
set_option maxRecDepth 20000 in
theorem m_slices_DeleteFunc_ok (N : Nat) (w0 w : World) (F : List HE) (p0 : (List Int)) (p1c0 : (List ApiAssign)) (p1c1 : (List ApiEmptying)) (p1c2 : ApiWindow) (p1c3 : Int) (q : Option Addr) (z : Nat) (t : Nat) (a : Nat) (f : Option Addr) (i : Nat) (j : Nat) (b : Nat) (g : Option Addr) (m : Nat) (o : Nat) (d : Nat) (e : Nat) (K : RdE w0 4 encApiAssign f p1c0) (L : SW f i j (List.length p1c0)) (M : RdE w0 7 encApiEmptying g p1c1) (O : SW g m o (List.length p1c1)) (hw : Hs w0 ([ownE 3 1 encI q z t p0, blkE a 24 [.slice f i j], blkE b 25 [.slice g m o], blkE d 49 [.int .i64 p1c2.From, .int .i64 p1c2.To], blkE e 3 [.int .i64 p1c3]] ++ [packE w0.heap.size F]) w) (r : (List Int)) (hr : m_slices_DeleteFunc N p0 p1c0 p1c1 p1c2 p1c3 = some r) :
  Calls Tryz.prog 62 [.slice q z t, .func (.func 63) #[] #[.pointer (some ⟨a, 0, none⟩), .pointer (some ⟨b, 0, none⟩), .pointer (some ⟨d, 0, none⟩), .pointer (some ⟨e, 0, none⟩)]].toArray w fun x w1 => ∃ u, x = .returned ((fun (_r : (List Int)) (u : Nat) => (.slice q u t : Value)) r u) ∧ Hs w0 ((fun (r : (List Int)) (u : Nat) => [ownE 3 1 encI q u t r, blkE a 24 [.slice f i j], blkE b 25 [.slice g m o], blkE d 49 [.int .i64 p1c2.From, .int .i64 p1c2.To], blkE e 3 [.int .i64 p1c3]]) r u ++ [packE w0.heap.size F]) w1 := by
 refine calls_cmH (n := 42) (R := fun r x w1 => ∃ u, x = .returned ((fun (_r : (List Int)) (u : Nat) => (.slice q u t : Value)) r u) ∧ Hs w0 ((fun (r : (List Int)) (u : Nat) => [ownE 3 1 encI q u t r, blkE a 24 [.slice f i j], blkE b 25 [.slice g m o], blkE d 49 [.int .i64 p1c2.From, .int .i64 p1c2.To], blkE e 3 [.int .i64 p1c3]]) r u ++ [packE w0.heap.size F]) w1) Tryz.func62 rfl rfl (Nat.le_of_ble_eq_true rfl) ?_ hw r hr
 unfold m_slices_DeleteFunc
 refine sr <| la 1 ((4, .slice _ _ _) :: _) rfl <| nn <| sr <| la 2 ((9, .func _ _ _) :: (8, .slice _ _ _) :: _) rfl <| lm_call 10 (V := (fun (r : Int) (_u : Unit) => .int .i64 r)) (HR := (fun (_r : Int) (_u : Unit) => [])) (by kernel_rfl) (fun w1 => op_call (by kernel_rfl)) (fun r1 hr1 w1 c1 => m_slices_IndexFunc_emptying_Of_1_ok N w1 p0 p1c0 p1c1 p1c2 p1c3 q z t a f i j b g m o d e (c1.own 0 rfl encI_len) (c1.ownZ 0 rfl) (c1.blk 1 rfl) (K.old c1) L (c1.blk 2 rfl) (M.old c1) O (c1.blk 3 rfl) (c1.blk 4 rfl) r1 hr1) ?_
 intro a6 a7
 refine la 1 ((5, .int .i64 _) :: _) rfl <| nn <| cm_seq <| sr <| la 2 ((12, .bool _) :: (11, .int .i64 _) :: _) rfl <| nn <| cm_cond (by kernel_rfl) rfl (fun a0 => ?_) (fun a0 => ?_)
 ·refine sr <| la 2 ((4, .slice _ _ _) :: (13, .slice _ _ _) :: _) rfl <| nn <| cm_ret <| xm_thenR ?_
  exact xm_retT rfl (by kernel_rfl) (show _ = Value.slice _ _ _ from rfl) fun w1 c1 => ⟨z, rfl, hsub [0, 1, 2, 3, 4, 5] (by kernel_rfl) rfl w1 c1⟩
 ·refine sk <| cm_join (σ := (List Int) × Int) (ξ := Unit) (fun B X => [(0, .slice q z t), (5, .int .i64 B.2)]) (fun B X => [ownE 3 1 encI q z t B.1, blkE a 24 [.slice f i j], blkE b 25 [.slice g m o], blkE d 49 [.int .i64 p1c2.From, .int .i64 p1c2.To], blkE e 3 [.int .i64 p1c3], packE w0.heap.size F]) ?_ ?_
  ·refine sr <| la 1 ((14, .int .i64 _) :: _) rfl <| lm_ck (fun a1 => ?_)
   refine v_ 15 (fun _ _ => op_add rfl rfl a1) <| la 1 ((6, .int .i64 _) :: _) rfl <| nn <| cm_block <| cm_loop (σ := (List Int) × Int × Int) (ξ := Unit) (fun y Y => [(0, .slice q z t), (1, .func (.func 63) #[] #[.pointer (some ⟨a, 0, none⟩), .pointer (some ⟨b, 0, none⟩), .pointer (some ⟨d, 0, none⟩), .pointer (some ⟨e, 0, none⟩)]), (5, .int .i64 y.2.1), (6, .int .i64 y.2.2)]) (fun y Y => [ownE 3 1 encI q z t y.1, blkE a 24 [.slice f i j], blkE b 25 [.slice g m o], blkE d 49 [.int .i64 p1c2.From, .int .i64 p1c2.To], blkE e 3 [.int .i64 p1c3], packE w0.heap.size F]) () ?_ ?_ ?_
   ·exact sq
   ·exact sh [0, 1, 2, 3, 4, 5]
   intro y Y
   refine cm_seq <| sr <| la 2 ((17, .slice _ _ _) :: (16, .int .i64 _) :: _) rfl <| v_ 18 (fun _ c1 => op_lenN rfl (by kernel_rfl) (c1.ownZ 0 rfl).2.2) <| la 1 ((19, .bool _) :: _) rfl <| nn <| cm_cond (by kernel_rfl) rfl (fun a2 => ?_) (fun a2 => ?_)
   ·refine sk <| cm_join (σ := (List Int) × Int) (ξ := Unit) (fun Q Z => [(0, .slice q z t), (1, .func (.func 63) #[] #[.pointer (some ⟨a, 0, none⟩), .pointer (some ⟨b, 0, none⟩), .pointer (some ⟨d, 0, none⟩), .pointer (some ⟨e, 0, none⟩)]), (5, .int .i64 Q.2), (6, .int .i64 y.2.2)]) (fun Q Z => [ownE 3 1 encI q z t Q.1, blkE a 24 [.slice f i j], blkE b 25 [.slice g m o], blkE d 49 [.int .i64 p1c2.From, .int .i64 p1c2.To], blkE e 3 [.int .i64 p1c3], packE w0.heap.size F]) ?_ ?_
    ·refine cm_block <| sr <| la 2 ((23, .int .i64 _) :: (22, .slice _ _ _) :: _) rfl <| lm_ck (fun C => ?_)
     refine v_ 24 (fun _ c1 => oI 1 rfl rfl ((c1.own 0 rfl encI_len).addr C.1 C.2) (c1.ownZ 0 rfl).2.2 C) <| v_ 25 (fun _ c1 => oL (v := .int .i64 (ix y.1 y.2.2)) ((c1.own 0 rfl encI_len).cell0 C.1 C.2 rfl)) <| la 1 ((7, .int .i64 _) :: _) rfl <| nn <| sr <| la 2 ((27, .int .i64 _) :: (26, .func _ _ _) :: _) rfl <| lm_call 28 (V := (fun (r : Bool) (_u : Unit) => .bool r)) (HR := (fun (_r : Bool) (_u : Unit) => [])) (by kernel_rfl) (fun w1 => op_callv rfl (by kernel_rfl)) (fun r1 hr1 w1 c1 => m_emptying_Of_1_ok N w1 (ix y.1 y.2.2) p1c0 p1c1 p1c2 p1c3 a f i j b g m o d e (c1.blk 1 rfl) (K.old c1) L (c1.blk 2 rfl) (M.old c1) O (c1.blk 3 rfl) (c1.blk 4 rfl) r1 hr1) ?_
     intro a8 a9
     refine la 1 ((29, .bool _) :: _) rfl <| nn <| cm_condB (by kernel_rfl) rfl (fun a3 => ?_) (fun a3 => ?_)
     ·refine sr <| la 3 ((32, .int .i64 _) :: (31, .int .i64 _) :: (30, .slice _ _ _) :: _) rfl <| lm_ck (fun G => ?_)
      refine v_ 33 (fun _ c1 => oI 1 rfl rfl ((c1.own 0 rfl encI_len).addr G.1 G.2) (c1.ownZ 0 rfl).2.2 G) <| lm_storeIx 0 (ix y.1 y.2.2) 0 [.int .i64 _] (by kernel_rfl) rfl rfl (by kernel_rfl) rfl rfl rfl encI_len encI_one G.1 G.2 (by kernel_rfl) rfl <| nn <| cm_region <| la 1 ((34, .int .i64 _) :: _) rfl <| lm_ck (fun a4 => ?_)
      refine v_ 35 (fun _ _ => op_add rfl rfl a4) <| la 1 ((5, .int .i64 _) :: _) rfl <| lm_nil <| xm_inN ?_
      exact xm_lnext () sq (sh [0, 1, 2, 3, 4, 5])
     ·refine cm_skip <| xm_inN ?_
      exact xm_lnext () sq (sh [0, 1, 2, 3, 4, 5])
    intro Q Z
    refine cm_region <| la 1 ((20, .int .i64 _) :: _) rfl <| lm_ck (fun a5 => ?_)
    refine v_ 21 (fun _ _ => op_add rfl rfl a5) <| la 1 ((6, .int .i64 _) :: _) rfl <| lm_nil ?_
    exact xm_lnext () sq (sh [0, 1, 2, 3, 4, 5])
   ·refine cm_exit <| xm_thenE <| xm_lexit <| xm_here ?_
    exact xm_lnext () sq (sh [0, 1, 2, 3, 4, 5])
  intro B X
  refine sr <| la 2 ((37, .int .i64 _) :: (36, .slice _ _ _) :: _) rfl <| lm_ck (fun J => ?_)
  refine v_ 38 (fun _ c1 => op_sliceFrom (l := B.1) 1 rfl rfl (by kernel_rfl) (by kernel_rfl) (c1.ownZ 0 rfl) J.1 J.2) <| lm_clear 0 (bytes := 8) (Int.toNat B.2) (0 : Int) (by kernel_rfl) (by kernel_rfl) encI_len encI_one rfl rfl rfl rfl rfl (fun w1 c1 => adv_at (c1.own 0 rfl encI_len) (c1.ownZ 0 rfl) J.1 J.2) (fun w1 c1 => by rw [(c1.ownZ 0 rfl).2.2]) (by have := J.2; omega) <| nn <| sr <| la 2 ((40, .int .i64 _) :: (39, .slice _ _ _) :: _) rfl <| lm_ck (fun U => ?_)
  refine v_ 41 (fun _ c1 => op_sliceTo2 (l := (clearAt B.1 (Int.toNat B.2) (0 : Int))) rfl rfl (by kernel_rfl) (by kernel_rfl) (c1.ownZ 0 rfl) U.1 U.2) <| la 1 ((4, .slice _ _ _) :: _) rfl <| nn <| cm_ret <| xm_cut 0 rfl encI_len U.1 U.2 rfl ?_
  exact xm_retT rfl (by kernel_rfl) (show _ = Value.slice _ _ _ from rfl) fun w1 c1 => ⟨(Int.toNat B.2), rfl, hsub [0, 1, 2, 3, 4, 5] (by kernel_rfl) rfl w1 c1⟩
/-- emptying.Of -/
def m_emptying_Of (N : Nat) (p0 : (List ApiEmptying)) (p1 : (List ApiAssign)) (p2 : Int) (p3 : ApiWindow) (p4 : Int) : Option ((List Int) × Int) :=
 Option.bind (m_emptying_Counts N p0 p4) fun r9 => (if r9.2 ≠ 0 then
  some ((([] : List Int), r9.2))
 else
  Option.bind (m_emptying_window N p3) fun a => (if (!a) = true then
   some ((([] : List Int), (1 : Int)))
  else
   Option.bind (m_slices_DeleteFunc N r9.1 p1 p0 p3 p2) fun b => some ((b, (0 : Int)))))
set_option maxRecDepth 20000 in
theorem m_emptying_Of_ok (N : Nat) (w0 : World) (p0 : (List ApiEmptying)) (p1 : (List ApiAssign)) (p2 : Int) (p3 : ApiWindow) (p4 : Int) (b : Option Addr) (d : Nat) (e : Nat) (f : Option Addr) (g : Nat) (i : Nat) (j : RdE w0 7 encApiEmptying b p0) (l : SW b d e (List.length p0)) (m : RdE w0 4 encApiAssign f p1) (o : SW f g i (List.length p1)) (r : (List Int) × Int) (hr : m_emptying_Of N p0 p1 p2 p3 p4 = some r) :
  Ret Tryz.prog 24 [.slice b d e, .slice f g i, .int .i64 p2, .agg #[.int .i64 p3.From, .int .i64 p3.To], .int .i64 p4] w0 (fun (r : (List Int) × Int) (u : (Option Addr) × Nat × Nat) => .tuple #[.slice u.1 u.2.1 u.2.2, .int .i64 r.2]) (fun (r : (List Int) × Int) (u : (Option Addr) × Nat × Nat) => [ownE 3 1 encI u.1 u.2.1 u.2.2 r.1]) r := by
 refine calls_v (n := 29) r hr Tryz.func24 ?_
 unfold m_emptying_Of
 refine sr <| lm_box 5 [.slice _ _ _] (by kernel_rfl) rfl ?_
 intro b5
 refine lm_box 6 [.slice _ _ _] (by kernel_rfl) rfl ?_
 intro b6
 refine lm_box 7 [.int .i64 _] (by kernel_rfl) rfl ?_
 intro b7
 refine lm_box 8 [.int .i64 _, .int .i64 _] (by kernel_rfl) rfl ?_
 intro b8
 refine la 2 ((11, .int .i64 _) :: (10, .slice _ _ _) :: _) rfl <| nn <| sr <| v_ 15 (fun _ c1 => oL (c1.cell 3 (u := .slice _ _ _) rfl rfl)) <| la 1 ((16, .int .i64 _) :: _) rfl <| lm_call 17 (V := (fun (r : (List Int) × Int) (u : (Option Addr) × Nat × Nat) => .tuple #[.slice u.1 u.2.1 u.2.2, .int .i64 r.2])) (HR := (fun (r : (List Int) × Int) (u : (Option Addr) × Nat × Nat) => [ownE 3 1 encI u.1 u.2.1 u.2.2 r.1])) (by kernel_rfl) (fun w1 => op_call (by kernel_rfl)) (fun r1 hr1 w1 c1 => m_emptying_Counts_ok N w1 p0 p4 b d e (j.old c1) l r1 hr1) ?_
 intro r9 a
 refine la 5 ((13, .int .i64 _) :: (12, .slice _ _ _) :: (19, .int .i64 _) :: (18, .slice _ _ _) :: (14, .tuple _) :: _) rfl <| nn <| cm_seq <| sr <| la 2 ((21, .bool _) :: (20, .int .i64 _) :: _) rfl <| nn <| cm_cond (by kernel_rfl) rfl (fun q => ?_) (fun q => ?_)
 ·refine sr <| la 3 ((11, .int .i64 _) :: (10, .slice _ _ _) :: (22, .int .i64 _) :: _) rfl <| nn <| cm_ret <| xm_thenR <| xm_nilrow 3 1 encI ?_
  exact xm_retTT rfl (by kernel_rfl) (show _ = Value.slice _ _ _ from rfl) (by kernel_rfl) (show _ = Value.int .i64 _ from rfl) fun w1 c1 => ⟨(none, 0, 0), rfl, hsub [0] (by kernel_rfl) rfl w1 c1⟩
 ·refine sk <| cm_seq <| sr <| v_ 23 (fun _ c1 => oR [.int .i64 _, .int .i64 _] (c1.cells 1 rfl rfl)) <| lm_call 24 (V := (fun (r : Bool) (_u : Unit) => .bool r)) (HR := (fun (_r : Bool) (_u : Unit) => [])) (by kernel_rfl) (fun w1 => op_call (by kernel_rfl)) (fun r1 hr1 w1 c1 => m_emptying_window_ok N w1 p3  r1 hr1) ?_
  intro x y
  refine la 1 ((25, .bool _) :: _) rfl <| nn <| cm_condB (by kernel_rfl) rfl (fun t => ?_) (fun t => ?_)
  ·refine sr <| la 2 ((11, .int .i64 _) :: (10, .slice _ _ _) :: _) rfl <| nn <| cm_ret <| xm_thenR <| xm_nilrow 3 1 encI ?_
   exact xm_retTT rfl (by kernel_rfl) (show _ = Value.slice _ _ _ from rfl) (by kernel_rfl) (show _ = Value.int .i64 _ from rfl) fun w1 c1 => ⟨(none, 0, 0), rfl, hsub [0] (by kernel_rfl) rfl w1 c1⟩
  ·refine sk <| sr <| la 1 ((26, .slice _ _ _) :: _) rfl <| v_ 27 (fun _ _ => op_makeFuncC [.pointer (some ⟨_, _, _⟩), .pointer (some ⟨_, _, _⟩), .pointer (some ⟨_, _, _⟩), .pointer (some ⟨_, _, _⟩)] rfl) <| lm_callH 28 (V := (fun (_r : (List Int)) (u : Nat) => (.slice a.1 u a.2.2 : Value))) [ownE 3 1 encI a.1 a.2.1 a.2.2 r9.1, blkE b6 24 [.slice f g i], blkE b5 25 [.slice b d e], blkE b8 49 [.int .i64 p3.From, .int .i64 p3.To], blkE b7 3 [.int .i64 p2]] [] (O := (fun (r : (List Int)) (u : Nat) => [ownE 3 1 encI a.1 u a.2.2 r, blkE b6 24 [.slice f g i], blkE b5 25 [.slice b d e], blkE b8 49 [.int .i64 p3.From, .int .i64 p3.To], blkE b7 3 [.int .i64 p2]])) (sh [0, 3, 4, 1, 2]) (by kernel_rfl) (fun w1 => op_call (by kernel_rfl)) (fun r1 hr1 w1 c1 => m_slices_DeleteFunc_ok N w0 w1 [] r9.1 p1 p0 p3 p2 a.1 a.2.1 a.2.2 b6 f g i b5 b d e b8 b7 m o j l c1 r1 hr1) ?_
   intro z v
   refine la 2 ((11, .int .i64 _) :: (10, .slice _ _ _) :: _) rfl <| nn <| cm_ret ?_
   exact xm_retTT rfl (by kernel_rfl) (show _ = Value.slice _ _ _ from rfl) (by kernel_rfl) (show _ = Value.int .i64 _ from rfl) fun w1 c1 => ⟨(a.1, v, a.2.2), rfl, hsub [0] (by kernel_rfl) rfl w1 c1⟩
end Go.Proofs.YtbnimhmoffchdaaGreatDoor
