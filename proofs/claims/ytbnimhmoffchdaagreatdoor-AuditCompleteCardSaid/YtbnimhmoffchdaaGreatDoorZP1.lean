/- Models of functions, and that the code follows them. Written by deco.py. -/
import Derived.Test.YtbnimhmoffchdaaGreatDoorSq2
import Derived.Test.YtbnimhmoffchdaaGreatDoorKD
import Derived.Test.YtbnimhmoffchdaaGreatDoorKC
import Derived.Test.YtbnimhmoffchdaaGreatDoorShelf
import Derived.Test.YtbnimhmoffchdaaGreatDoorDN
namespace Go.Proofs.YtbnimhmoffchdaaGreatDoor
open Go.RowKit
set_option linter.unusedSectionVars false
variable [JF]

structure ApiHousehold where
 ID : ByteArray
 Persons : Int
deriving DecidableEq, Inhabited
def encApiHousehold (x : ApiHousehold) : List Value := [.string x.ID, .int .i64 x.Persons]
def valApiHousehold (x : ApiHousehold) : Value := .agg #[.string x.ID, .int .i64 x.Persons]
structure ApiContainer where
 ID : ByteArray
 Kind : Int
 Litres : Int
 Grams : Int
 Node : Int
deriving DecidableEq, Inhabited
def encApiContainer (x : ApiContainer) : List Value := [.string x.ID, .int .i64 x.Kind, .int .i64 x.Litres, .int .i64 x.Grams, .int .i64 x.Node]
def valApiContainer (x : ApiContainer) : Value := .agg #[.string x.ID, .int .i64 x.Kind, .int .i64 x.Litres, .int .i64 x.Grams, .int .i64 x.Node]
structure ApiWindow where
 From : Int
 To : Int
deriving DecidableEq, Inhabited
def encApiWindow (x : ApiWindow) : List Value := [.int .i64 x.From, .int .i64 x.To]
def valApiWindow (x : ApiWindow) : Value := .agg #[.int .i64 x.From, .int .i64 x.To]
structure ApiAssign where
 Container : Int
 Household : Int
 When : ApiWindow
deriving DecidableEq, Inhabited
def encApiAssign (x : ApiAssign) : List Value := [.int .i64 x.Container, .int .i64 x.Household, .int .i64 x.When.From, .int .i64 x.When.To]
def valApiAssign (x : ApiAssign) : Value := .agg #[.int .i64 x.Container, .int .i64 x.Household, .int .i64 x.When.From, .int .i64 x.When.To]
theorem encApiAssign_len (x : ApiAssign) : (encApiAssign x).length = 4 := rfl
theorem encApiAssign_one (x : ApiAssign) : (encApiAssign x).all Value.oneCell' = true := rfl
structure ApiSpan where
 Lo : Int
 Hi : Int
deriving DecidableEq, Inhabited
def encApiSpan (x : ApiSpan) : List Value := [.int .i64 x.Lo, .int .i64 x.Hi]
def valApiSpan (x : ApiSpan) : Value := .agg #[.int .i64 x.Lo, .int .i64 x.Hi]
structure ApiEmptying where
 ID : Int
 Container : Int
 Vehicle : Int
 At : Int
 Mass : ApiSpan
 Void : Bool
deriving DecidableEq, Inhabited
def encApiEmptying (x : ApiEmptying) : List Value := [.int .i64 x.ID, .int .i64 x.Container, .int .i64 x.Vehicle, .int .i64 x.At, .int .i64 x.Mass.Lo, .int .i64 x.Mass.Hi, .bool x.Void]
def valApiEmptying (x : ApiEmptying) : Value := .agg #[.int .i64 x.ID, .int .i64 x.Container, .int .i64 x.Vehicle, .int .i64 x.At, .int .i64 x.Mass.Lo, .int .i64 x.Mass.Hi, .bool x.Void]
structure ApiTariff where
 From : Int
 Base : Int
 Empty : Int
 Kilo : Int
 Free : Int
deriving DecidableEq, Inhabited
def encApiTariff (x : ApiTariff) : List Value := [.int .i64 x.From, .int .i64 x.Base, .int .i64 x.Empty, .int .i64 x.Kilo, .int .i64 x.Free]
def valApiTariff (x : ApiTariff) : Value := .agg #[.int .i64 x.From, .int .i64 x.Base, .int .i64 x.Empty, .int .i64 x.Kilo, .int .i64 x.Free]
structure ApiAccount where
 Households : (List ApiHousehold)
 Containers : (List ApiContainer)
 Assigns : (List ApiAssign)
 Emptyings : (List ApiEmptying)
 Tariffs : (List ApiTariff)
 Gap : Int
deriving Inhabited
structure ApiTransfer where
 From : Int
 To : Int
 Mass : ApiSpan
deriving DecidableEq, Inhabited
def encApiTransfer (x : ApiTransfer) : List Value := [.int .i64 x.From, .int .i64 x.To, .int .i64 x.Mass.Lo, .int .i64 x.Mass.Hi]
def valApiTransfer (x : ApiTransfer) : Value := .agg #[.int .i64 x.From, .int .i64 x.To, .int .i64 x.Mass.Lo, .int .i64 x.Mass.Hi]
structure ApiBale where
 ID : Int
 Material : Int
 At : Int
 Mix : (List Int)
deriving Inhabited
def encApiBale (x : ApiBale) (d1 : Hdr) : List Value := [.int .i64 x.ID, .int .i64 x.Material, .int .i64 x.At, .slice d1.1 d1.2.1 d1.2.2]
structure ApiProduct where
 Code : ByteArray
 Producer : Int
 Deposit : Int
 Material : Int
 Grams : Int
deriving DecidableEq, Inhabited
def encApiProduct (x : ApiProduct) : List Value := [.string x.Code, .int .i64 x.Producer, .int .i64 x.Deposit, .int .i64 x.Material, .int .i64 x.Grams]
def valApiProduct (x : ApiProduct) : Value := .agg #[.string x.Code, .int .i64 x.Producer, .int .i64 x.Deposit, .int .i64 x.Material, .int .i64 x.Grams]
structure ApiSale where
 Product : Int
 First : Int
 Count : Int
 Retailer : Int
 At : Int
deriving DecidableEq, Inhabited
def encApiSale (x : ApiSale) : List Value := [.int .i64 x.Product, .int .i64 x.First, .int .i64 x.Count, .int .i64 x.Retailer, .int .i64 x.At]
def valApiSale (x : ApiSale) : Value := .agg #[.int .i64 x.Product, .int .i64 x.First, .int .i64 x.Count, .int .i64 x.Retailer, .int .i64 x.At]
structure ApiClaim where
 Serial : Int
 Machine : Int
 Seq : Int
 At : Int
 Paid : Bool
deriving DecidableEq, Inhabited
def encApiClaim (x : ApiClaim) : List Value := [.int .i64 x.Serial, .int .i64 x.Machine, .int .i64 x.Seq, .int .i64 x.At, .bool x.Paid]
def valApiClaim (x : ApiClaim) : Value := .agg #[.int .i64 x.Serial, .int .i64 x.Machine, .int .i64 x.Seq, .int .i64 x.At, .bool x.Paid]
structure ApiPayout where
 Claim : ApiClaim
 Product : Int
 Amount : Int
deriving DecidableEq, Inhabited
def encApiPayout (x : ApiPayout) : List Value := [.int .i64 x.Claim.Serial, .int .i64 x.Claim.Machine, .int .i64 x.Claim.Seq, .int .i64 x.Claim.At, .bool x.Claim.Paid, .int .i64 x.Product, .int .i64 x.Amount]
def valApiPayout (x : ApiPayout) : Value := .agg #[.int .i64 x.Claim.Serial, .int .i64 x.Claim.Machine, .int .i64 x.Claim.Seq, .int .i64 x.Claim.At, .bool x.Claim.Paid, .int .i64 x.Product, .int .i64 x.Amount]
structure ApiFee where
 Producer : Int
 Material : Int
 Amount : Int
deriving DecidableEq, Inhabited
def encApiFee (x : ApiFee) : List Value := [.int .i64 x.Producer, .int .i64 x.Material, .int .i64 x.Amount]
def valApiFee (x : ApiFee) : Value := .agg #[.int .i64 x.Producer, .int .i64 x.Material, .int .i64 x.Amount]
structure ApiItem where
 Kind : Int
 Ref : Int
 Count : Int
 Price : Int
 Amount : Int
deriving DecidableEq, Inhabited
def encApiItem (x : ApiItem) : List Value := [.int .i64 x.Kind, .int .i64 x.Ref, .int .i64 x.Count, .int .i64 x.Price, .int .i64 x.Amount]
def valApiItem (x : ApiItem) : Value := .agg #[.int .i64 x.Kind, .int .i64 x.Ref, .int .i64 x.Count, .int .i64 x.Price, .int .i64 x.Amount]
theorem encApiItem_len (x : ApiItem) : (encApiItem x).length = 5 := rfl
theorem encApiItem_one (x : ApiItem) : (encApiItem x).all Value.oneCell' = true := rfl
structure ApiBill where
 ID : Int
 Household : Int
 When : ApiWindow
 Items : (List ApiItem)
 Total : Int
deriving Inhabited
def encApiBill (x : ApiBill) (d1 : Hdr) : List Value := [.int .i64 x.ID, .int .i64 x.Household, .int .i64 x.When.From, .int .i64 x.When.To, .slice d1.1 d1.2.1 d1.2.2, .int .i64 x.Total]
structure ApiLine where
 Account : Int
 Amount : Int
deriving DecidableEq, Inhabited
def encApiLine (x : ApiLine) : List Value := [.int .i64 x.Account, .int .i64 x.Amount]
def valApiLine (x : ApiLine) : Value := .agg #[.int .i64 x.Account, .int .i64 x.Amount]
structure ApiPosting where
 ID : Int
 At : Int
 Lines : (List ApiLine)
deriving Inhabited
def encApiPosting (x : ApiPosting) (d1 : Hdr) : List Value := [.int .i64 x.ID, .int .i64 x.At, .slice d1.1 d1.2.1 d1.2.2]
structure ApiBooks where
 Now : Int
 Account : ApiAccount
 Transfers : (List ApiTransfer)
 Inside : Int
 Bins : Int
 Bales : (List ApiBale)
 Products : (List ApiProduct)
 Sales : (List ApiSale)
 Claims : (List ApiClaim)
 Paid : (List ApiPayout)
 Costs : (List Int)
 Fees : (List ApiFee)
 Bills : (List ApiBill)
 Postings : (List ApiPosting)
deriving Inhabited
/-- emptying.within -/
def m_emptying_within (_N : Nat) (p0 : Int) (p1 : Int) (p2 : Int) : Option (Bool) :=
 some (((decide (p1 ≤ p0)) && (decide (p0 ≤ p2))))
set_option maxRecDepth 20000 in
theorem m_emptying_within_ok (N : Nat) (w0 : World) (p0 p1 p2 : Int)   (r : Bool) (hr : m_emptying_within N p0 p1 p2 = some r) :
  Ret Tryz.prog 116 [I p0, I p1, I p2] w0 VB H0 r := by
 refine calls_v (n := 15) r hr Tryz.func116 ?_
 unfold m_emptying_within
 refine sr <| la 1 ((6, B false) :: _) rfl <| nn <| cm_seq <| cm_cutE [(6, B ((decide (p1 ≤ p0)) && (decide (p0 ≤ p2))))] ?_ ?_
 ·refine qa 2 ((8, I _) :: (7, I _) :: _) rfl <| qd 9 (fun _ _ => op_geq rfl rfl) (fun h5 => ?_) (fun h5 => ?_)
  ·exact qa 6 ((6, B _) :: (14, B _) :: (13, B _) :: (12, I _) :: (11, I _) :: (10, B true) :: _) rfl <| lb 9 rfl (by rw [dt h5] <;> rfl)
  ·exact qa 6 ((6, B false) :: (14, B false) :: uz 13 3 ((10, B false) :: _)) rfl <| lb 9 rfl (by rw [df h5] <;> rfl)
 exact xm_next <| cm_ret <| xr [] ()
/-- emptying.one -/
def m_emptying_one (N : Nat) (p0 : ApiEmptying) (p1 : Int) (p2 : Int) : Option (Int) :=
 Option.bind (m_emptying_within N p0.ID (1 : Int) (1000000 : Int)) fun r6 => (if (!r6) = true then
  some (1)
 else
  (if ((((decide (p0.Container < 0)) || (decide (p1 ≤ p0.Container))) || (decide (p0.Vehicle < 0))) || (decide (p2 ≤ p0.Vehicle))) = true then
   some (7)
  else
   Option.bind (m_emptying_within N p0.At (0 : Int) (3155759999 : Int)) fun a => (if ((((!a) || (decide (p0.Mass.Lo < 0))) || (decide (p0.Mass.Hi < p0.Mass.Lo))) || (decide (1073741824 < p0.Mass.Hi))) = true then
    some (1)
   else
    some (0))))
set_option maxHeartbeats 2000000 in
set_option maxRecDepth 20000 in
theorem m_emptying_one_ok (N : Nat) (w0 : World) (p0 : ApiEmptying) (p1 p2 : Int)   (r : Int) (hr : m_emptying_one N p0 p1 p2 = some r) :
  Ret Tryz.prog 112 [.agg #[I p0.ID, I p0.Container, I p0.Vehicle, I p0.At, I p0.Mass.Lo, I p0.Mass.Hi, B p0.Void], I p1, I p2] w0 VI H0 r := by
 refine calls_v (n := 59) r hr Tryz.func112 ?_
 unfold m_emptying_one
 refine sr <| bx 3 [I _, I _, I _, I _, I _, I _, B _] rfl fun b5 => la 1 ((6, I _) :: _) rfl <| nn <| cm_seq <| cm_block <| sr <| vf 8 0 0 rfl <| vc 9 0 rfl rfl rfl <| lc 10 (fun r1 hr1 w1 c1 => m_emptying_within_ok N w1 p0.ID (1 : Int) (1000000 : Int)  r1 hr1) fun r6 u7 => la 2 ((7, B _) :: (11, B _) :: _) rfl <| nn <| cB rfl (fun h8 => ?_) (fun h8 => ?_)
 ·exact sr <| la 1 ((6, I _) :: _) rfl <| nn <| cm_ret <| xm_inR <| xm_thenR <| xr [] ()
 ·refine cm_seq <| cm_cutE [(12, B ((((decide (p0.Container < 0)) || (decide (p1 ≤ p0.Container))) || (decide (p0.Vehicle < 0))) || (decide (p2 ≤ p0.Vehicle))))] ?_ ?_
  ·refine qf 13 1 1 rfl <| qc 14 0 rfl rfl rfl <| qd 15 (fun _ _ => op_lss rfl rfl) (fun h9 => ?_) (fun h9 => ?_)
   ·exact qa 18 ((12, B true) :: (32, B true) :: uz 31 4 ((27, B true) :: (26, B true) :: uz 25 3 ((22, B true) :: (21, B true) :: uz 20 4 ((16, B true) :: _)))) rfl <| lb 21 rfl (by rw [dt h9] <;> rfl)
   ·refine qa 1 ((16, B false) :: _) rfl <| qf 17 1 1 rfl <| qc 18 0 rfl rfl rfl <| qa 1 ((19, I _) :: _) rfl <| qd 20 (fun _ _ => op_geq rfl rfl) (fun b => ?_) (fun b => ?_)
    ·exact qa 13 ((12, B true) :: (32, B true) :: uz 31 4 ((27, B true) :: (26, B true) :: uz 25 3 ((22, B true) :: (21, B true) :: _))) rfl <| lb 21 rfl (by rw [df h9, dt b] <;> rfl)
    ·refine qa 2 ((22, B false) :: (21, B false) :: _) rfl <| qf 23 2 2 rfl <| qc 24 0 rfl rfl rfl <| qd 25 (fun _ _ => op_lss rfl rfl) (fun e => ?_) (fun e => ?_)
     ·exact qa 8 ((12, B true) :: (32, B true) :: uz 31 4 ((27, B true) :: (26, B true) :: _)) rfl <| lb 21 rfl (by rw [df h9, df b, dt e] <;> rfl)
     ·exact qa 2 ((27, B false) :: (26, B false) :: _) rfl <| qf 28 2 2 rfl <| qc 29 0 rfl rfl rfl <| qa 4 ((12, B _) :: (32, B _) :: (31, B _) :: (30, I _) :: _) rfl <| lb 21 rfl (by rw [df h9, df b, df e] <;> rfl)
  refine xm_next <| cB rfl (fun i => ?_) (fun i => ?_)
  ·exact sr <| la 1 ((6, I _) :: _) rfl <| nn <| cm_ret <| xm_inR <| xm_thenR <| xr [] ()
  ·refine cm_seq <| cm_bind fun g j => cm_cutE [(33, B ((((!g) || (decide (p0.Mass.Lo < 0))) || (decide (p0.Mass.Hi < p0.Mass.Lo))) || (decide (1073741824 < p0.Mass.Hi))))] ?_ ?_
   ·refine qf 34 3 3 rfl <| qc 35 0 rfl rfl rfl <| qkb 36 (fun w1 c1 => m_emptying_within_ok N w1 p0.At (0 : Int) (3155759999 : Int)  g j) (fun a => ?_) (fun a => ?_)
    ·refine qa 2 ((38, B false) :: (37, B false) :: _) rfl <| qf 39 4 4 rfl <| qf 40 0 4 rfl <| qc 41 0 rfl rfl rfl <| qd 42 (fun _ _ => op_lss rfl rfl) (fun d => ?_) (fun d => ?_)
     ·exact qa 17 ((33, B true) :: (58, B true) :: uz 57 4 ((53, B true) :: (52, B true) :: uz 51 7 ((44, B true) :: (43, B true) :: _))) rfl <| lb 26 rfl (by rw [a, dt d] <;> rfl)
     ·refine qa 2 ((44, B false) :: (43, B false) :: _) rfl <| qf 45 4 4 rfl <| qf 46 0 4 rfl <| qc 47 0 rfl rfl rfl <| qf 48 4 4 rfl <| qf 49 1 5 rfl <| qc 50 0 rfl rfl rfl <| qd 51 (fun _ _ => op_gtr rfl rfl) (fun f => ?_) (fun f => ?_)
      ·exact qa 8 ((33, B true) :: (58, B true) :: uz 57 4 ((53, B true) :: (52, B true) :: _)) rfl <| lb 26 rfl (by rw [a, df d, dt f] <;> rfl)
      ·exact qa 2 ((53, B false) :: (52, B false) :: _) rfl <| qf 54 4 4 rfl <| qf 55 1 5 rfl <| qc 56 0 rfl rfl rfl <| qa 3 ((33, B _) :: (58, B _) :: (57, B _) :: _) rfl <| lb 26 rfl (by rw [a, df d, df f] <;> rfl)
    ·exact qa 23 ((33, B true) :: (58, B true) :: uz 57 4 ((53, B true) :: (52, B true) :: uz 51 7 ((44, B true) :: (43, B true) :: uz 42 4 ((38, B true) :: (37, B true) :: _)))) rfl <| lb 26 rfl (by rw [a] <;> rfl)
   refine xm_next <| cB rfl (fun l => ?_) (fun l => ?_)
   ·exact sr <| la 1 ((6, I _) :: _) rfl <| nn <| cm_ret <| xm_inR <| xm_thenR <| xr [] ()
   ·exact cm_skip <| xm_inN <| xm_next <| sr <| la 1 ((6, I _) :: _) rfl <| nn <| cm_ret <| xr [] ()
/-- emptying.Check -/
def m_emptying_Check (N : Nat) (p0 : (List ApiEmptying)) (p1 : Int) (p2 : Int) : Option (Int) :=
 (if 512 < (List.length p0 : Int) then
  some (8)
 else
  (andThen
   (loopM (fun (b : Int) =>
    (if b < (List.length p0 : Int) then
     ck (0 ≤ b ∧ b < (List.length p0 : Int)) (
      Option.bind (m_emptying_one N (ix p0 b) p1 p2) fun d => (if d ≠ 0 then
       some (.done (.done (d)))
      else
       ck (I64 (b + 1)) (
        some (.next (b + 1)))))
    else
     some (.done (.next ())))) N 0)
  fun (_s33 : Unit) =>
   (andThen
    (loopM (fun (a : (List (Int × Bool)) × Int) =>
     (if a.2 < (List.length p0 : Int) then
      ck (0 ≤ a.2 ∧ a.2 < (List.length p0 : Int)) (
       ck (I64 ((ix p0 a.2).ID)) (
        (if (Option.getD (mget a.1 ((ix p0 a.2).ID)) false) = true then
         some (.done (.done ((6 : Int))))
        else
         ck (I64 ((ix p0 a.2).ID)) (
          ck (I64 (a.2 + 1)) (
           some (.next ((mput a.1 ((ix p0 a.2).ID) true), (a.2 + 1))))))))
     else
      some (.done (.next ())))) N (([] : (List (Int × Bool))), (0 : Int)))
   fun (_s90 : Unit) =>
    some (0))))
set_option maxHeartbeats 2000000 in
set_option maxRecDepth 20000 in
theorem m_emptying_Check_ok (N : Nat) (w0 : World) (p0 : (List ApiEmptying)) (p1 p2 : Int) (d : Ad) (f g : Nat) (i : RdE w0 7 encApiEmptying d p0) (e : SW d f g (List.length p0)) (r : Int) (hr : m_emptying_Check N p0 p1 p2 = some r) :
  Ret Tryz.prog 56 [S d f g, I p1, I p2] w0 VI H0 r := by
 refine calls_v (n := 45) r hr Tryz.func56 ?_
 unfold m_emptying_Check
 refine sr <| la 1 ((6, I _) :: _) rfl <| nn <| cm_seq <| sr <| la 1 ((13, S _ _ _) :: _) rfl <| vn 14 e rfl <| la 1 ((15, B _) :: _) rfl <| nn <| cc rfl (fun h5 => ?_) (fun h5 => ?_)
 ·exact sr <| la 1 ((6, I _) :: _) rfl <| nn <| cm_ret <| xm_thenR <| xr [] ()
 ·refine sk <| cm_join (σ := Unit) (ξ := Unit) (fun q t => [(0, S d f g)]) (fun q t => []) ?_ ?_
  ·refine sr <| la 1 ((16, S _ _ _) :: _) rfl <| vn 17 e rfl <| la 1 ((18, I _) :: _) rfl <| nn <| cm_block <| cm_loop (σ := Int) (ξ := Unit) (fun j x => [(0, S d f g), (1, I p1), (2, I p2), (16, S d f g), (17, I (List.length p0 : Int)), (18, I j)]) (fun j x => []) () ?_ ?_ ?_
   ·exact sq
   ·exact sh []
   intro j x
   refine sr <| la 1 ((19, B _) :: _) rfl <| nn <| cm_seq <| cc rfl (fun U => ?_) (fun U => ?_)
   ·refine sk <| cm_seq <| cm_block <| sr <| lm_ck (fun z => ?_)
    refine vi 20 7 i e z rfl rfl <| vr 21 i z rfl <| al 8 [I 0, I 0, I 0, I 0, I 0, I 0, B false] (v := .agg #[I 0, I 0, I 0, I 0, I 0, I 0, B false]) rfl fun Z => sA 0 [I _, I _, I _, I _, I _, I _, B _] [_, _, _, _, _, _, _] (H' := [blkE _ _ [_, _, _, _, _, _, _]]) rfl rfl rfl rfl rfl rfl <| nn <| sr <| vR 22 [I _, I _, I _, I _, I _, I _, B _] 0 rfl rfl rfl <| la 2 ((24, I _) :: (23, I _) :: _) rfl <| lc 25 (fun r1 hr1 w1 c1 => m_emptying_one_ok N w1 (ix p0 j) p1 p2  r1 hr1) fun a0 a1 => la 1 ((9, I _) :: _) rfl <| nn <| sr <| la 2 ((27, B _) :: (26, I _) :: _) rfl <| nn <| cc rfl (fun V => ?_) (fun V => ?_)
    ·exact sr <| la 2 ((6, I _) :: (28, I _) :: _) rfl <| nn <| cm_ret <| xm_inR <| xm_thenR <| xm_lret <| xm_inR <| xm_lret <| xr [] ()
    ·refine cm_skip <| xm_inN <| xm_next <| cm_region <| lm_ck (fun X => ?_)
     exact va 29 X rfl rfl <| la 1 ((18, I _) :: _) rfl <| lm_nil <| xn () []
   ·exact cm_exit <| xm_thenE <| xm_lexit <| xm_here <| xn () []
  intro q t
  refine sr <| lm_makeMap (κ := Int) (α := Bool) 30 3 (Value.int .i64) B (by kernel_rfl) fun C => la 1 ((10, .map (some _)) :: _) rfl <| nn <| cm_join (σ := Unit) (ξ := Unit) (fun G J => []) (fun G J => []) ?_ ?_
  ·refine sr <| la 1 ((31, S _ _ _) :: _) rfl <| vn 32 e rfl <| la 1 ((33, I _) :: _) rfl <| nn <| cm_block <| cm_loop (σ := (List (Int × Bool)) × Int) (ξ := Unit) (fun b m => [(10, .map (some C)), (31, S d f g), (32, I (List.length p0 : Int)), (33, I b.2)]) (fun b m => [mapE Tryz.prog 3 (Value.int .i64) B C b.1]) () ?_ ?_ ?_
   ·exact sq
   ·exact sh [0]
   intro b m
   refine sr <| la 1 ((34, B _) :: _) rfl <| nn <| cm_seq <| cc rfl (fun K => ?_) (fun K => ?_)
   ·refine sk <| cm_seq <| cm_block <| sr <| lm_ck (fun o => ?_)
    refine vi 35 7 i e o rfl rfl <| vr 36 i o rfl <| al 12 [I 0, I 0, I 0, I 0, I 0, I 0, B false] (v := .agg #[I 0, I 0, I 0, I 0, I 0, I 0, B false]) rfl fun Y => sA 0 [I _, I _, I _, I _, I _, I _, B _] [_, _, _, _, _, _, _] (H' := [blkE _ _ [_, _, _, _, _, _, _], _]) rfl rfl rfl rfl rfl rfl <| nn <| cm_seq <| sr <| la 1 ((37, .map (some _)) :: _) rfl <| vf 38 0 0 rfl <| vc 39 0 rfl rfl rfl <| lm_ck (fun L => ?_)
    refine v_ 40 (fun _ c1 => op_lookup (κ := Int) (α := Bool) (ek := (Value.int .i64)) (ev := Value.bool) (l := b.1) (y := ((ix p0 b.2).ID)) false rfl rfl (Maps.int_keyed Tryz.underlying3) (ek_int .i64) (key_i64 Tryz.underlying3 L) Tryz.underlying175 rfl (c1.map 1 rfl)) <| nn <| cB rfl (fun M => ?_) (fun M => ?_)
    ·exact sr <| la 1 ((6, I _) :: _) rfl <| nn <| cm_ret <| xm_thenR <| xm_inR <| xm_thenR <| xm_lret <| xm_inR <| xm_lret <| xr [] ()
    ·refine sk <| cm_region <| la 1 ((41, .map (some _)) :: _) rfl <| vf 42 0 0 rfl <| vc 43 0 rfl rfl rfl <| lm_ck (fun O => ?_)
     refine lm_mapUpdate 1 (κ := Int) (α := Bool) (ek := (Value.int .i64)) (ev := Value.bool) (l := b.1) (y := ((ix p0 b.2).ID)) (a := true) (by kernel_rfl) rfl rfl rfl (Maps.int_keyed Tryz.underlying3) (ek_int .i64) (key_i64 Tryz.underlying3 O) Tryz.underlying175 rfl rfl <| lm_nil <| xm_inN <| xm_next <| cm_region <| lm_ck (fun Q => ?_)
     exact va 44 Q rfl rfl <| la 1 ((33, I _) :: _) rfl <| lm_nil <| xn () [1]
   ·exact cm_exit <| xm_thenE <| xm_lexit <| xm_here <| xm_lnext () sub_nil (sh [])
  intro G J
  exact sr <| la 1 ((6, I _) :: _) rfl <| nn <| cm_ret <| xr [] ()
/-- cmp.isNaN -/
def m_cmp_isNaN (_N : Nat) (p0 : Int) : Option (Bool) :=
 some ((decide (p0 ≠ p0)))
set_option maxRecDepth 20000 in
theorem m_cmp_isNaN_ok (N : Nat) (w0 : World) (p0 : Int)   (r : Bool) (hr : m_cmp_isNaN N p0 = some r) :
  Ret Tryz.prog 158 [I p0] w0 VB H0 r := by
 refine calls_v (n := 6) r hr Tryz.func158 ?_
 unfold m_cmp_isNaN
 exact sr <| la 1 ((2, B false) :: _) rfl <| nn <| sr <| la 4 ((2, B _) :: (5, B _) :: (4, I _) :: (3, I _) :: _) rfl <| nn <| cm_ret <| xr [] ()
/-- cmp.Compare -/
def m_cmp_Compare (N : Nat) (p0 : Int) (p1 : Int) : Option (Int) :=
 Option.bind (m_cmp_isNaN N p0) fun r5 => Option.bind (m_cmp_isNaN N p1) fun r7 => (if r5 = true then
  (if r7 = true then
   some (0)
  else
   some ((-1 : Int)))
 else
  (if r7 = true then
   some (1)
  else
   (if p0 < p1 then
    some ((-1 : Int))
   else
    (if p1 < p0 then
     some (1)
    else
     some (0)))))
set_option maxHeartbeats 2000000 in
set_option maxRecDepth 20000 in
theorem m_cmp_Compare_ok (N : Nat) (w0 : World) (p0 p1 : Int)   (r : Int) (hr : m_cmp_Compare N p0 p1 = some r) :
  Ret Tryz.prog 146 [I p0, I p1] w0 VI H0 r := by
 refine calls_v (n := 20) r hr Tryz.func146 ?_
 unfold m_cmp_Compare
 refine sr <| la 1 ((4, I _) :: _) rfl <| nn <| sr <| la 1 ((7, I _) :: _) rfl <| lc 8 (fun r1 hr1 w1 c1 => m_cmp_isNaN_ok N w1 p0  r1 hr1) fun r5 u6 => la 1 ((5, B _) :: _) rfl <| nn <| sr <| la 1 ((9, I _) :: _) rfl <| lc 10 (fun r1 hr1 w1 c1 => m_cmp_isNaN_ok N w1 p1  r1 hr1) fun r7 u8 => la 1 ((6, B _) :: _) rfl <| nn <| cm_seq <| sr <| la 1 ((11, B _) :: _) rfl <| nn <| cB rfl (fun h9 => ?_) (fun h9 => ?_)
 ·refine cm_seq <| sr <| la 1 ((12, B _) :: _) rfl <| nn <| cB rfl (fun a => ?_) (fun a => ?_)
  ·exact sr <| la 1 ((4, I _) :: _) rfl <| nn <| cm_ret <| xm_thenR <| xm_thenR <| xr [] ()
  ·exact sk <| sr <| la 1 ((4, I _) :: _) rfl <| nn <| cm_ret <| xm_thenR <| xr [] ()
 ·refine sk <| cm_seq <| sr <| la 1 ((13, B _) :: _) rfl <| nn <| cB rfl (fun b => ?_) (fun b => ?_)
  ·exact sr <| la 1 ((4, I _) :: _) rfl <| nn <| cm_ret <| xm_thenR <| xr [] ()
  ·refine sk <| cm_seq <| sr <| la 3 ((16, B _) :: (15, I _) :: (14, I _) :: _) rfl <| nn <| cc rfl (fun d => ?_) (fun d => ?_)
   ·exact sr <| la 1 ((4, I _) :: _) rfl <| nn <| cm_ret <| xm_thenR <| xr [] ()
   ·refine sk <| cm_seq <| sr <| la 3 ((19, B _) :: (18, I _) :: (17, I _) :: _) rfl <| nn <| cc rfl (fun e => ?_) (fun e => ?_)
    ·exact sr <| la 1 ((4, I _) :: _) rfl <| nn <| cm_ret <| xm_thenR <| xr [] ()
    ·exact sk <| sr <| la 1 ((4, I _) :: _) rfl <| nn <| cm_ret <| xr [] ()
/-- cmp.Or -/
def m_cmp_Or (N : Nat) (p0 : (List Int)) : Option (Int) :=
 (andThen
  (loopM (fun (a : Int) =>
   (if a < (List.length p0 : Int) then
    ck (0 ≤ a ∧ a < (List.length p0 : Int)) (
     (if (ix p0 a) ≠ 0 then
      some (.done (.done ((ix p0 a))))
     else
      ck (I64 (a + 1)) (
       some (.next (a + 1)))))
   else
    some (.done (.next ())))) N 0)
 fun (_s23 : Unit) =>
  some (0))
set_option maxRecDepth 20000 in
theorem m_cmp_Or_ok (N : Nat) (w0 : World) (p0 : (List Int)) (a : Ad) (b d : Nat) (e : RdE w0 1 encI a p0) (f : SW a b d (List.length p0)) (r : Int) (hr : m_cmp_Or N p0 = some r) :
  Ret Tryz.prog 145 [S a b d] w0 VI H0 r := by
 refine calls_v (n := 18) r hr Tryz.func145 ?_
 unfold m_cmp_Or
 refine sr <| la 1 ((2, I _) :: _) rfl <| nn <| sr <| la 1 ((3, I _) :: _) rfl <| nn <| cm_join (σ := Unit) (ξ := Unit) (fun j l => [(3, I 0)]) (fun j l => []) ?_ ?_
 ·refine sr <| la 1 ((6, S _ _ _) :: _) rfl <| vn 7 f rfl <| la 1 ((8, I _) :: _) rfl <| nn <| cm_block <| cm_loop (σ := Int) (ξ := Unit) (fun g m => [(3, I 0), (6, S a b d), (7, I (List.length p0 : Int)), (8, I g)]) (fun g m => []) () ?_ ?_ ?_
  ·exact sq
  ·exact sh []
  intro g m
  refine sr <| la 1 ((9, B _) :: _) rfl <| nn <| cm_seq <| cc rfl (fun o => ?_) (fun o => ?_)
  ·refine sk <| cm_seq <| cm_block <| sr <| lm_ck (fun i => ?_)
   refine vi 10 1 e f i rfl rfl <| v_ 11 (fun _ c1 => oL (v := I (ix p0 g)) ((e.old c1).cell0 i.1 i.2 rfl)) <| la 1 ((5, I _) :: _) rfl <| nn <| sr <| la 3 ((14, B _) :: (13, I _) :: (12, I _) :: _) rfl <| nn <| cc rfl (fun q => ?_) (fun q => ?_)
   ·exact sr <| la 2 ((2, I _) :: (15, I _) :: _) rfl <| nn <| cm_ret <| xm_inR <| xm_thenR <| xm_lret <| xm_inR <| xm_lret <| xr [] ()
   ·refine cm_skip <| xm_inN <| xm_next <| cm_region <| lm_ck (fun t => ?_)
    exact va 16 t rfl rfl <| la 1 ((8, I _) :: _) rfl <| lm_nil <| xn () []
  ·exact cm_exit <| xm_thenE <| xm_lexit <| xm_here <| xn () []
 intro j l
 exact sr <| la 2 ((2, I _) :: (17, I _) :: _) rfl <| nn <| cm_ret <| xr [] ()
/-- emptying.sorted$1 -/
def m_emptying_sorted_1 (N : Nat) (p0 : Int) (p1 : Int) (q0 : (List ApiEmptying)) : Option (Int) :=
 ck (0 ≤ p0 ∧ p0 < (List.length q0 : Int)) (
  ck (0 ≤ p1 ∧ p1 < (List.length q0 : Int)) (
   Option.bind (m_cmp_Compare N ((ix q0 p0).At) ((ix q0 p1).At)) fun r7 => ck (0 ≤ p0 ∧ p0 < (List.length q0 : Int)) (
    ck (0 ≤ p1 ∧ p1 < (List.length q0 : Int)) (
     Option.bind (m_cmp_Compare N ((ix q0 p0).ID) ((ix q0 p1).ID)) fun a => Option.bind (m_cmp_Or N ([r7, a])) fun b => some (b)))))
set_option maxRecDepth 20000 in
theorem m_emptying_sorted_1_ok (N : Nat) (w0 : World) (p0 p1 : Int) (q0 : (List ApiEmptying)) (C : Nat) (f : Ad) (l o : Nat) (e : Blk w0 C 25 [S f l o]) (b : RdE w0 7 encApiEmptying f q0) (d : SW f l o (List.length q0)) (r : Int) (hr : m_emptying_sorted_1 N p0 p1 q0 = some r) :
  Ret Tryz.prog 144 [I p0, I p1, .pointer (some ⟨C, 0, none⟩)] w0 VI H0 r := by
 refine calls_v (n := 30) r hr Tryz.func144 ?_
 unfold m_emptying_sorted_1
 refine sr <| la 1 ((5, I _) :: _) rfl <| nn <| cm_seq <| cm_ck (fun h5 => ?_)
 refine cm_ck (fun h6 => ?_)
 refine cm_bind fun r7 h8 => cm_ck (fun h9 => ?_)
 refine cm_ck (fun g => ?_)
 refine cm_bind fun q O => cm_bind fun G Q => cm_held (ξ := Unit) (fun J => [(5, I G)]) (fun J => []) [] 25 (by kernel_rfl) (by rfl) (hsub [] (by kernel_rfl) (by rfl)) ?_ ?_
 ·intro U a
  refine wt 0 6 rfl (fun w2 c2 => (op_load rfl (by kernel_rfl) (c2.ocell (e.at_ 0 (u := S _ _ _) rfl)))) (hs [] a) <| wt 1 7 rfl (fun w2 c2 => (op_move (v := I _) rfl)) (hs [] a) <| wt 2 8 rfl (fun w2 c2 => oI 7 rfl rfl ((b.old c2).addr h5.1 h5.2) d.2.2 h5) (hs [] a) <| wt 3 9 rfl (fun w2 c2 => (op_field (m := 3) rfl (by kernel_rfl))) (hs [] a) <| wt 4 10 rfl (fun w2 c2 => (op_load (v := I ((ix q0 p0).At)) rfl (by kernel_rfl) ((b.old c2).cell (j := 3) h5.1 h5.2 rfl))) (hs [] a) <| wt 5 11 rfl (fun w2 c2 => (op_load rfl (by kernel_rfl) (c2.ocell (e.at_ 0 (u := S _ _ _) rfl)))) (hs [] a) <| wt 6 12 rfl (fun w2 c2 => (op_move (v := I _) rfl)) (hs [] a) <| wt 7 13 rfl (fun w2 c2 => oI 7 rfl rfl ((b.old c2).addr h6.1 h6.2) d.2.2 h6) (hs [] a) <| wt 8 14 rfl (fun w2 c2 => (op_field (m := 3) rfl (by kernel_rfl))) (hs [] a) <| wt 9 15 rfl (fun w2 c2 => (op_load (v := I ((ix q0 p1).At)) rfl (by kernel_rfl) ((b.old c2).cell (j := 3) h6.1 h6.2 rfl))) (hs [] a) <| wt 11 17 rfl (fun w2 c2 => (op_load rfl (by kernel_rfl) (c2.ocell (e.at_ 0 (u := S _ _ _) rfl)))) (hs [] a) <| wt 12 18 rfl (fun w2 c2 => (op_move (v := I _) rfl)) (hs [] a) <| wt 13 19 rfl (fun w2 c2 => oI 7 rfl rfl ((b.old c2).addr h9.1 h9.2) d.2.2 h9) (hs [] a) <| wt 14 20 rfl (fun w2 c2 => (op_field0 rfl (by kernel_rfl))) (hs [] a) <| wt 15 21 rfl (fun w2 c2 => (op_load (v := I ((ix q0 p0).ID)) rfl (by kernel_rfl) ((b.old c2).cell0 h9.1 h9.2 rfl))) (hs [] a) <| wt 16 22 rfl (fun w2 c2 => (op_load rfl (by kernel_rfl) (c2.ocell (e.at_ 0 (u := S _ _ _) rfl)))) (hs [] a) <| wt 17 23 rfl (fun w2 c2 => (op_move (v := I _) rfl)) (hs [] a) <| wt 18 24 rfl (fun w2 c2 => oI 7 rfl rfl ((b.old c2).addr g.1 g.2) d.2.2 g) (hs [] a) <| wt 19 25 rfl (fun w2 c2 => (op_field0 rfl (by kernel_rfl))) (hs [] a) <| wt 20 26 rfl (fun w2 c2 => (op_load (v := I ((ix q0 p1).ID)) rfl (by kernel_rfl) ((b.old c2).cell0 g.1 g.2 rfl))) (hs [] a) <| wh_ready [10] (by kernel_rfl) rfl ⟨?_, trivial⟩
  refine ws_call 16 rfl (by kernel_rfl) (op_call (by kernel_rfl)) (m_cmp_Compare_ok N _ ((ix q0 p0).At) ((ix q0 p1).At)  r7 h8) ?_
  rintro x V ⟨X, rfl, t⟩
  replace t := a.call t
  refine ⟨_, rfl, (hs [] t), ?_⟩
  refine wh_ready [21] (by kernel_rfl) rfl ⟨?_, trivial⟩
  refine ws_call 27 rfl (by kernel_rfl) (op_call (by kernel_rfl)) (m_cmp_Compare_ok N _ ((ix q0 p0).ID) ((ix q0 p1).ID)  q O) ?_
  rintro x Y ⟨Z, rfl, y⟩
  replace y := t.call y
  refine ⟨_, rfl, (hs [] y), ?_⟩
  refine wh_ready [22] (by kernel_rfl) rfl ⟨?_, trivial⟩
  refine ws_sliceN 28 (el := 3) (sz := 1) (bytes := 8) (enc := encI) [r7, q] rfl (by kernel_rfl) (by kernel_rfl) encI_len rfl ⟨rfl, rfl, ⟨rfl, rfl, trivial⟩⟩ (by kernel_rfl) (by kernel_rfl) y fun K L M a0 z => ⟨(hs [] z), ?_⟩
  refine wh_strong (Hs w0 [ownE 3 1 encI K L M ([r7, q])]) (fun w2 c2 => hs [] c2) <| wh_ready [23] (by kernel_rfl) rfl ⟨?_, trivial⟩
  refine ws_call 29 rfl (by kernel_rfl) (op_call (by kernel_rfl)) (m_cmp_Or_ok N _ ([r7, q]) K L M (z.own 0 rfl encI_len) (z.ownZ 0 rfl) G Q) ?_
  rintro x a1 ⟨a2, rfl, i⟩
  replace i := z.call i
  refine ⟨_, rfl, (hs [0] i), ?_⟩
  exact wt 24 5 rfl (fun w2 c2 => (op_assign (v := I _) rfl)) (hs [0] i) <| wh_done () (by kernel_rfl) sq (hs [] i)
 intro J
 exact xm_next <| cm_ret <| xr [] ()
/-- emptying.sorted -/
def m_emptying_sorted (N : Nat) (p0 : (List ApiEmptying)) : Option ((List Int)) :=
 ck (0 ≤ (List.length p0 : Int) ∧ Int.toNat (List.length p0 : Int) * 8 ≤ 140737488355328) (
  (andThen
   (loopM (fun (a : (List Int) × Int) =>
    (if a.2 < (List.length (List.replicate (Int.toNat (List.length p0 : Int)) (0 : Int)) : Int) then
     ck (0 ≤ a.2 ∧ a.2 < (List.length a.1 : Int)) (
      ck (I64 (a.2 + 1)) (
       some (.next ((List.set a.1 (Int.toNat a.2) a.2), (a.2 + 1)))))
    else
     some (.done (.next a.1)))) N ((List.replicate (Int.toNat (List.length p0 : Int)) (0 : Int)), (0 : Int)))
  fun (b : (List Int)) =>
   ck (sortOk (fun x y => m_emptying_sorted_1 N x y p0) b ∧ List.length b < 4611686018427387904) (
    some ((sortO (fun x y => m_emptying_sorted_1 N x y p0) b)))))
set_option maxRecDepth 20000 in
theorem m_emptying_sorted_ok (N : Nat) (w0 : World) (p0 : (List ApiEmptying)) (a : Ad) (b d : Nat) (l : RdE w0 7 encApiEmptying a p0) (i : SW a b d (List.length p0)) (r : (List Int)) (hr : m_emptying_sorted N p0 = some r) :
  Ret Tryz.prog 117 [S a b d] w0 (fun (_r : (List Int)) (u : Hdr) => S u.1 u.2.1 u.2.2) (fun (r : (List Int)) (u : Hdr) => [ownE 3 1 encI u.1 u.2.1 u.2.2 r]) r := by
 refine calls_v (n := 22) r hr Tryz.func117 ?_
 unfold m_emptying_sorted
 refine sr <| bx 1 [S _ _ _] rfl fun b5 => la 1 ((2, S _ _ _) :: _) rfl <| nn <| sr <| vc 5 0 rfl rfl rfl <| vn 6 i rfl <| lm_ck (fun h6 => ?_)
 refine lm_make 7 (el := 3) (sz := 1) (bytes := 8) (enc := encI) (0 : Int) (zv := I 0) (by kernel_rfl) (by kernel_rfl) (by kernel_rfl) rfl encI_len rfl rfl h6.1 h6.2 (by kernel_rfl) fun A7 n8 k9 z => la 1 ((3, S _ _ _) :: _) rfl <| nn <| cm_join (σ := (List Int)) (ξ := Unit) (fun j m => [(1, .pointer (some ⟨b5, 0, none⟩)), (3, S A7 n8 k9)]) (fun j m => [blkE b5 25 [S a b d], ownE 3 1 encI A7 n8 k9 j]) ?_ ?_
 ·refine sr <| la 1 ((8, S _ _ _) :: _) rfl <| v_ 9 (fun _ c1 => op_lenN rfl (by kernel_rfl) (c1.ownZ 0 rfl).2.2) <| la 1 ((10, I _) :: _) rfl <| nn <| cm_block <| cm_loop (σ := (List Int) × Int) (ξ := Unit) (fun f o => [(1, .pointer (some ⟨b5, 0, none⟩)), (3, S A7 n8 k9), (9, I (List.length (List.replicate (Int.toNat (List.length p0 : Int)) (0 : Int)) : Int)), (10, I f.2)]) (fun f o => [blkE b5 25 [S a b d], ownE 3 1 encI A7 n8 k9 f.1]) () ?_ ?_ ?_
  ·exact sq
  ·exact sh [1, 0]
  intro f o
  refine sr <| la 1 ((11, B _) :: _) rfl <| nn <| cm_seq <| cc rfl (fun t => ?_) (fun t => ?_)
  ·refine sk <| cm_seq <| cm_block <| sr <| la 2 ((4, I _) :: (12, I _) :: _) rfl <| nn <| cm_region <| la 3 ((15, I _) :: (14, I _) :: (13, S _ _ _) :: _) rfl <| lm_ck (fun g => ?_)
   refine v_ 16 (fun _ c1 => oI 1 rfl rfl ((c1.own 1 rfl encI_len).addr g.1 g.2) (c1.ownZ 1 rfl).2.2 g) <| lm_storeIx 1 f.2 0 [I _] (by kernel_rfl) rfl rfl (by kernel_rfl) rfl rfl rfl encI_len encI_one g.1 g.2 (by kernel_rfl) rfl <| lm_nil <| xm_inN <| xm_next <| cm_region <| lm_ck (fun v => ?_)
   exact va 17 v rfl rfl <| la 1 ((10, I _) :: _) rfl <| lm_nil <| xn () [0, 1]
  ·exact cm_exit <| xm_thenE <| xm_lexit <| xm_here <| xn () [0, 1]
 intro j m
 refine sr <| la 1 ((18, S _ _ _) :: _) rfl <| v_ 19 (fun _ _ => op_makeFuncC [.pointer (some ⟨_, _, _⟩)] rfl) <| lm_ck (fun q => ?_)
 exact lm_callS 20 (by kernel_rfl) (fun w1 => op_call (by kernel_rfl)) (fun w1 c1 => sort1_own Tryz.sortInt encI (Value.int .i64) (fun _ => rfl) (fun _ => rfl) (fun x y => m_emptying_sorted_1 N x y p0) 144 3 [.pointer (some ⟨b5, 0, none⟩)] (enters_of Tryz.func144 (by kernel_rfl) rfl) 1 rfl q.1 q.2 c1 (fun s1 w2 c1 x y r hr => (@m_emptying_sorted_1_ok ⟨false⟩ N w2 x y p0 b5 a b d (c1.blk 0 rfl) (l.old c1) i r hr).mono fun e w3 ⟨_, he, hw⟩ => ⟨he, hw⟩)) <| nn <| sr <| la 2 ((2, S _ _ _) :: (21, S _ _ _) :: _) rfl <| nn <| cm_ret <| xr [1] (A7, n8, k9)
/-- emptying.Counts -/
def m_emptying_Counts (N : Nat) (p0 : (List ApiEmptying)) (p1 : Int) : Option ((List Int) × Int) :=
 Option.bind (m_emptying_Check N p0 (256 : Int) (16 : Int)) fun r5 => (if r5 ≠ 0 then
  some ((([] : List Int), r5))
 else
  Option.bind (m_emptying_within N p1 (0 : Int) (86400 : Int)) fun r8 => (if (!r8) = true then
   some ((([] : List Int), (1 : Int)))
  else
   (andThen
    (Option.bind (m_emptying_sorted N p0) fun b => (loopM (fun (a : (List (Int × Int)) × (List Int) × Int) =>
     (if a.2.2 < (List.length b : Int) then
      (andThen
       (ck (0 ≤ a.2.2 ∧ a.2.2 < (List.length b : Int)) (
        ck (0 ≤ (ix b a.2.2) ∧ (ix b a.2.2) < (List.length p0 : Int)) (
         ck (I64 ((ix p0 (ix b a.2.2)).Container)) (
          ck (((!((ix p0 (ix b a.2.2)).Void)) && (Option.isSome (mget a.1 ((ix p0 (ix b a.2.2)).Container)))) = true → I64 (((ix p0 (ix b a.2.2)).At) - (Option.getD (mget a.1 ((ix p0 (ix b a.2.2)).Container)) (0 : Int)))) (
           (if (((ix p0 (ix b a.2.2)).Void) || ((Option.isSome (mget a.1 ((ix p0 (ix b a.2.2)).Container))) && (decide ((((ix p0 (ix b a.2.2)).At) - (Option.getD (mget a.1 ((ix p0 (ix b a.2.2)).Container)) (0 : Int))) ≤ p1)))) = true then
            some (.next (a.1, a.2.1))
           else
            ck (I64 ((ix p0 (ix b a.2.2)).Container)) (
             ck ((List.length a.2.1 + List.length ([(ix b a.2.2)])) * 8 ≤ 140737488355328) (
              some (.next ((mput a.1 ((ix p0 (ix b a.2.2)).Container) ((ix p0 (ix b a.2.2)).At)), (a.2.1 ++ ([(ix b a.2.2)]))))))))))))
      fun (d : (List (Int × Int)) × (List Int)) =>
       ck (I64 (a.2.2 + 1)) (
        some (.next (d.1, d.2, (a.2.2 + 1)))))
     else
      some (.done (.next a.2.1)))) N (([] : (List (Int × Int))), ([] : List Int), (0 : Int))))
   fun (e : (List Int)) =>
    some ((e, (0 : Int))))))
set_option maxHeartbeats 2000000 in
set_option maxRecDepth 20000 in
theorem m_emptying_Counts_ok (N : Nat) (w0 : World) (p0 : (List ApiEmptying)) (p1 : Int) (j : Ad) (m o : Nat) (q : RdE w0 7 encApiEmptying j p0) (z : SW j m o (List.length p0)) (r : (List Int) × Int) (hr : m_emptying_Counts N p0 p1 = some r) :
  Ret Tryz.prog 60 [S j m o, I p1] w0 (fun (r : (List Int) × Int) (u : Hdr) => .tuple #[S u.1 u.2.1 u.2.2, I r.2]) (fun (r : (List Int) × Int) (u : Hdr) => [ownE 3 1 encI u.1 u.2.1 u.2.2 r.1]) r := by
 refine calls_v (n := 65) r hr Tryz.func60 ?_
 unfold m_emptying_Counts
 refine sr <| la 2 ((5, I _) :: (4, S _ _ _) :: _) rfl <| nn <| cm_seq <| sr <| la 1 ((14, S _ _ _) :: _) rfl <| lc 15 (fun r1 hr1 w1 c1 => m_emptying_Check_ok N w1 p0 (256 : Int) (16 : Int) j m o (q.old c1) z r1 hr1) fun r5 u6 => la 1 ((6, I _) :: _) rfl <| nn <| sr <| la 2 ((17, B _) :: (16, I _) :: _) rfl <| nn <| cc rfl (fun h7 => ?_) (fun h7 => ?_)
 ·exact sr <| la 3 ((5, I _) :: (4, S _ _ _) :: (18, I _) :: _) rfl <| nn <| cm_ret <| xm_thenR <| xm_nilrow 3 1 encI <| xrr [0] (none, 0, 0)
 ·refine sk <| cm_seq <| sr <| la 1 ((19, I _) :: _) rfl <| lc 20 (fun r1 hr1 w1 c1 => m_emptying_within_ok N w1 p1 (0 : Int) (86400 : Int)  r1 hr1) fun r8 u9 => la 1 ((21, B _) :: _) rfl <| nn <| cB rfl (fun a2 => ?_) (fun a2 => ?_)
  ·exact sr <| la 2 ((5, I _) :: (4, S _ _ _) :: _) rfl <| nn <| cm_ret <| xm_thenR <| xm_nilrow 3 1 encI <| xrr [0] (none, 0, 0)
  ·refine sk <| sr <| lm_makeMap (κ := Int) (α := Int) 22 3 (Value.int .i64) (Value.int .i64) (by kernel_rfl) fun K => la 1 ((7, .map (some _)) :: _) rfl <| nn <| sr <| la 1 ((8, S _ _ _) :: _) rfl <| nn <| cm_join (σ := (List Int)) (ξ := Hdr) (fun J g => [(8, S g.1 g.2.1 g.2.2)]) (fun J g => [ownE 3 1 encI g.1 g.2.1 g.2.2 J]) ?_ ?_
   ·refine sr <| la 1 ((23, S _ _ _) :: _) rfl <| lc 24 (fun r1 hr1 w1 c1 => m_emptying_sorted_ok N w1 p0 j m o (q.old c1) z r1 hr1) fun d f => v_ 25 (fun _ c1 => op_lenN rfl (by kernel_rfl) (c1.ownZ 0 rfl).2.2) <| la 1 ((26, I _) :: _) rfl <| nn <| cm_block <| cm_nilrow 3 1 encI <| cm_loop (σ := (List (Int × Int)) × (List Int) × Int) (ξ := Hdr) (fun b e => [(0, S j m o), (1, I p1), (7, .map (some K)), (8, S e.1 e.2.1 e.2.2), (24, S f.1 f.2.1 f.2.2), (25, I (List.length d : Int)), (26, I b.2.2)]) (fun b e => [mapE Tryz.prog 3 (Value.int .i64) (Value.int .i64) K b.1, ownE 3 1 encI e.1 e.2.1 e.2.2 b.2.1, ownE 3 1 encI f.1 f.2.1 f.2.2 d]) (none, 0, 0) ?_ ?_ ?_
    ·exact sq
    ·exact sh [2, 0, 1]
    intro b e
    refine sr <| la 1 ((27, B _) :: _) rfl <| nn <| cm_seq <| cc rfl (fun M => ?_) (fun M => ?_)
    ·refine sk <| cm_join (σ := (List (Int × Int)) × (List Int)) (ξ := Hdr) (fun C i => [(0, S j m o), (1, I p1), (7, .map (some K)), (8, S i.1 i.2.1 i.2.2), (24, S f.1 f.2.1 f.2.2), (25, I (List.length d : Int)), (26, I b.2.2)]) (fun C i => [mapE Tryz.prog 3 (Value.int .i64) (Value.int .i64) K C.1, ownE 3 1 encI i.1 i.2.1 i.2.2 C.2, ownE 3 1 encI f.1 f.2.1 f.2.2 d]) ?_ ?_
     ·refine cm_block <| sr <| lm_ck (fun t => ?_)
      refine v_ 28 (fun _ c1 => oI 1 rfl rfl ((c1.own 2 rfl encI_len).addr t.1 t.2) (c1.ownZ 2 rfl).2.2 t) <| v_ 29 (fun _ c1 => oL (v := I (ix d b.2.2)) ((c1.own 2 rfl encI_len).cell0 t.1 t.2 rfl)) <| la 1 ((10, I _) :: _) rfl <| nn <| sr <| la 2 ((31, I _) :: (30, S _ _ _) :: _) rfl <| lm_ck (fun L => ?_)
      refine vi 32 7 q z L rfl rfl <| vr 33 q L rfl <| al 11 [I 0, I 0, I 0, I 0, I 0, I 0, B false] (v := .agg #[I 0, I 0, I 0, I 0, I 0, I 0, B false]) rfl fun a3 => sA 0 [I _, I _, I _, I _, I _, I _, B _] [_, _, _, _, _, _, _] (H' := [blkE _ _ [_, _, _, _, _, _, _], _, _, _]) rfl rfl rfl rfl rfl rfl <| nn <| sr <| la 1 ((35, .map (some _)) :: _) rfl <| vf 36 1 1 rfl <| vc 37 0 rfl rfl rfl <| lm_ck (fun O => ?_)
      refine v_ 38 (fun _ c1 => op_lookupOk (κ := Int) (α := Int) (ek := (Value.int .i64)) (ev := (Value.int .i64)) (l := b.1) (y := ((ix p0 (ix d b.2.2)).Container)) (0 : Int) rfl rfl (Maps.int_keyed Tryz.underlying3) (ek_int .i64) (key_i64 Tryz.underlying3 O) Tryz.underlying177 rfl (c1.map 1 rfl)) <| la 5 ((13, B _) :: (12, I _) :: (40, B _) :: (39, I _) :: (34, .tuple _) :: _) rfl <| nn <| cm_seq <| cm_seq <| cm_ck (fun Q => ?_)
      refine cm_cutE [(53, B (((ix p0 (ix d b.2.2)).Void) || ((Option.isSome (mget b.1 ((ix p0 (ix d b.2.2)).Container))) && (decide ((((ix p0 (ix d b.2.2)).At) - (Option.getD (mget b.1 ((ix p0 (ix d b.2.2)).Container)) (0 : Int))) ≤ p1)))))] ?_ ?_
      ·refine qf 41 6 6 rfl <| wq_bool 42 (by kernel_rfl) (fun w1 c1 => (op_load rfl (by kernel_rfl) (c1.cell 0 (u := B _) rfl rfl))) (fun x => ?_) (fun x => ?_)
       ·exact qa 11 ((53, B true) :: uz 52 9 ((43, B true) :: _)) rfl <| lb 13 rfl (by rw [x] <;> rfl)
       ·refine qa 1 ((43, B false) :: _) rfl <| wq_bool 44 (by kernel_rfl) (fun w1 c1 => (op_move (v := B _) rfl)) (fun G => ?_) (fun G => ?_)
        ·exact qa 1 ((45, B true) :: _) rfl <| qf 46 3 3 rfl <| qc 47 0 rfl rfl rfl <| qa 1 ((48, I _) :: _) rfl <| q_ 49 (fun _ _ => op_sub rfl rfl (Q (by rw [x, G] <;> rfl))) <| qa 4 ((53, B _) :: (52, B _) :: (51, B _) :: (50, I _) :: _) rfl <| lb 13 rfl (by rw [x, G] <;> rfl)
        ·exact qa 9 ((53, B false) :: (52, B false) :: uz 51 6 ((45, B false) :: _)) rfl <| lb 13 rfl (by rw [x, G] <;> rfl)
      refine xm_next <| cB rfl (fun U => ?_) (fun U => ?_)
      ·exact cm_exit <| xm_thenE <| xm_here <| xn (e.1, e.2.1, e.2.2) [1, 2, 3]
      ·refine sk <| sr <| la 1 ((54, .map (some _)) :: _) rfl <| vf 55 1 1 rfl <| vc 56 0 rfl rfl rfl <| vf 57 3 3 rfl <| vc 58 0 rfl rfl rfl <| lm_ck (fun V => ?_)
       refine lm_mapUpdate 1 (κ := Int) (α := Int) (ek := (Value.int .i64)) (ev := (Value.int .i64)) (l := b.1) (y := ((ix p0 (ix d b.2.2)).Container)) (a := ((ix p0 (ix d b.2.2)).At)) (by kernel_rfl) rfl rfl rfl (Maps.int_keyed Tryz.underlying3) (ek_int .i64) (key_i64 Tryz.underlying3 V) Tryz.underlying177 rfl rfl <| nn <| cm_region <| la 2 ((60, I _) :: (59, S _ _ _) :: _) rfl <| lm_slice1 61 (el := 3) (sz := 1) (bytes := 8) (enc := encI) (ix d b.2.2) (by kernel_rfl) (by kernel_rfl) encI_len rfl (by kernel_rfl) fun a4 a5 a6 a7 => lm_ck (fun X => ?_)
       exact ap 62 3 (el := 3) (sz := 1) (bytes := 8) (enc := encI) (l2 := ([(ix d b.2.2)])) encI_len encI_one rfl rfl rfl (fun w1 c1 => (c1.ownZ 0 rfl)) (fun w1 c1 => (c1.own 0 rfl encI_len)) X fun Y Z a0 => la 1 ((8, S _ _ _) :: _) rfl <| lm_nil <| xm_inN <| xn (Y, Z, a0) [2, 3, 4]
     intro C i
     refine cm_region <| lm_ck (fun a1 => ?_)
     exact va 63 a1 rfl rfl <| la 1 ((26, I _) :: _) rfl <| lm_nil <| xn (i.1, i.2.1, i.2.2) [0, 1, 2]
    ·exact cm_exit <| xm_thenE <| xm_lexit <| xm_here <| xn (e.1, e.2.1, e.2.2) [1]
   intro J g
   exact sr <| la 3 ((5, I _) :: (4, S _ _ _) :: (64, S _ _ _) :: _) rfl <| nn <| cm_ret <| xrr [0] (g.1, g.2.1, g.2.2)
/-- emptying.window -/
def m_emptying_window (_N : Nat) (p0 : ApiWindow) : Option (Bool) :=
 some ((((decide (0 ≤ p0.From)) && (decide (p0.From ≤ p0.To))) && (decide (p0.To ≤ 3155760000))))
set_option maxRecDepth 20000 in
theorem m_emptying_window_ok (N : Nat) (w0 : World) (p0 : ApiWindow)   (r : Bool) (hr : m_emptying_window N p0 = some r) :
  Ret Tryz.prog 61 [.agg #[I p0.From, I p0.To]] w0 VB H0 r := by
 refine calls_v (n := 18) r hr Tryz.func61 ?_
 unfold m_emptying_window
 refine sr <| bx 1 [I _, I _] rfl fun b5 => la 1 ((2, B false) :: _) rfl <| nn <| cm_seq <| cm_cutE [(2, B (((decide (0 ≤ p0.From)) && (decide (p0.From ≤ p0.To))) && (decide (p0.To ≤ 3155760000))))] ?_ ?_
 ·refine qf 3 0 0 rfl <| qc 4 0 rfl rfl rfl <| qd 5 (fun _ _ => op_leq rfl rfl) (fun h6 => ?_) (fun h6 => ?_)
  ·refine qa 1 ((6, B true) :: _) rfl <| qf 7 0 0 rfl <| qc 8 0 rfl rfl rfl <| qf 9 1 1 rfl <| qc 10 0 rfl rfl rfl <| qd 11 (fun _ _ => op_leq rfl rfl) (fun h7 => ?_) (fun h7 => ?_)
   ·exact qa 2 ((13, B true) :: (12, B true) :: _) rfl <| qf 14 1 1 rfl <| qc 15 0 rfl rfl rfl <| qa 3 ((2, B _) :: (17, B _) :: (16, B _) :: _) rfl <| lb 16 rfl (by rw [dt h6, dt h7] <;> rfl)
   ·exact qa 7 ((2, B false) :: (17, B false) :: uz 16 3 ((13, B false) :: (12, B false) :: _)) rfl <| lb 16 rfl (by rw [dt h6, df h7] <;> rfl)
  ·exact qa 13 ((2, B false) :: (17, B false) :: uz 16 3 ((13, B false) :: (12, B false) :: uz 11 5 ((6, B false) :: _))) rfl <| lb 16 rfl (by rw [df h6] <;> rfl)
 exact xm_next <| cm_ret <| xr [] ()
/-- household.Owner$1 -/
def m_household_Owner_1 (_N : Nat) (p0 : ApiAssign) (q0 : Int) (q1 : Int) : Option (Bool) :=
 some ((((decide (p0.Container = q0)) && (decide (p0.When.From ≤ q1))) && (decide (q1 < p0.When.To))))
set_option maxRecDepth 20000 in
theorem m_household_Owner_1_ok (N : Nat) (w0 : World) (p0 : ApiAssign) (q0 q1 : Int) (b d : Nat) (e : Blk w0 b 3 [I q0]) (a : Blk w0 d 3 [I q1]) (r : Bool) (hr : m_household_Owner_1 N p0 q0 q1 = some r) :
  Ret Tryz.prog 120 [.agg #[I p0.Container, I p0.Household, I p0.When.From, I p0.When.To], .pointer (some ⟨b, 0, none⟩), .pointer (some ⟨d, 0, none⟩)] w0 VB H0 r := by
 refine calls_v (n := 23) r hr Tryz.func120 ?_
 unfold m_household_Owner_1
 refine sr <| bx 3 [I _, I _, I _, I _] rfl fun b5 => la 1 ((4, B false) :: _) rfl <| nn <| cm_seq <| cm_cutE [(4, B (((decide (p0.Container = q0)) && (decide (p0.When.From ≤ q1))) && (decide (q1 < p0.When.To))))] ?_ ?_
 ·refine qf 5 0 0 rfl <| qc 6 0 rfl rfl rfl <| q_ 7 (fun _ c1 => oL (c1.ocell (e.at_ 0 (u := I _) rfl))) <| qd 8 (fun _ _ => op_eql rfl rfl) (fun h6 => ?_) (fun h6 => ?_)
  ·refine qa 1 ((9, B true) :: _) rfl <| qf 10 2 2 rfl <| qf 11 0 2 rfl <| qc 12 0 rfl rfl rfl <| q_ 13 (fun _ c1 => oL (c1.ocell (a.at_ 0 (u := I _) rfl))) <| qd 14 (fun _ _ => op_leq rfl rfl) (fun h7 => ?_) (fun h7 => ?_)
   ·exact qa 2 ((16, B true) :: (15, B true) :: _) rfl <| q_ 17 (fun _ c1 => oL (c1.ocell (a.at_ 0 (u := I _) rfl))) <| qf 18 2 2 rfl <| qf 19 1 3 rfl <| qc 20 0 rfl rfl rfl <| qa 3 ((4, B _) :: (22, B _) :: (21, B _) :: _) rfl <| lb 19 rfl (by rw [dt h6, dt h7] <;> rfl)
   ·exact qa 9 ((4, B false) :: (22, B false) :: uz 21 5 ((16, B false) :: (15, B false) :: _)) rfl <| lb 19 rfl (by rw [dt h6, df h7] <;> rfl)
  ·exact qa 15 ((4, B false) :: (22, B false) :: uz 21 5 ((16, B false) :: (15, B false) :: uz 14 5 ((9, B false) :: _))) rfl <| lb 19 rfl (by rw [df h6] <;> rfl)
 exact xm_next <| cm_ret <| xr [] ()
/-- household.chosen -/
def m_household_chosen_household_Owner_1 (N : Nat) (p0 : (List ApiAssign)) (p1c0 : Int) (p1c1 : Int) : Option ((List ApiAssign)) :=
 (andThen
  (loopM (fun (a : (List ApiAssign) × Int) =>
   (if a.2 < (List.length p0 : Int) then
    (andThen
     (ck (0 ≤ a.2 ∧ a.2 < (List.length p0 : Int)) (
      Option.bind (m_household_Owner_1 N (ix p0 a.2) p1c0 p1c1) fun b => (if b = true then
       ck ((List.length a.1 + List.length ([(ix p0 a.2)])) * 32 ≤ 140737488355328) (
        some (.next (a.1 ++ ([(ix p0 a.2)]))))
      else
       some (.next a.1))))
    fun (d : (List ApiAssign)) =>
     ck (I64 (a.2 + 1)) (
      some (.next (d, (a.2 + 1)))))
   else
    some (.done (.next a.1)))) N (([] : List ApiAssign), (0 : Int)))
 fun (e : (List ApiAssign)) =>
  some (e))
set_option maxRecDepth 20000 in
theorem m_household_chosen_household_Owner_1_ok (N : Nat) (w0 : World) (p0 : (List ApiAssign)) (p1c0 p1c1 : Int) (i : Ad) (j l : Nat) (e f : Nat) (q : RdE w0 4 encApiAssign i p0) (t : SW i j l (List.length p0)) (x : Blk w0 e 3 [I p1c0]) (y : Blk w0 f 3 [I p1c1]) (r : (List ApiAssign)) (hr : m_household_chosen_household_Owner_1 N p0 p1c0 p1c1 = some r) :
  Ret Tryz.prog 119 [S i j l, .func (.func 120) #[] #[.pointer (some ⟨e, 0, none⟩), .pointer (some ⟨f, 0, none⟩)]] w0 (fun (_r : (List ApiAssign)) (u : Hdr) => S u.1 u.2.1 u.2.2) (fun (r : (List ApiAssign)) (u : Hdr) => [ownE 133 4 encApiAssign u.1 u.2.1 u.2.2 r]) r := by
 refine calls_v (n := 23) r hr Tryz.func119 ?_
 unfold m_household_chosen_household_Owner_1
 refine sr <| la 1 ((4, S _ _ _) :: _) rfl <| nn <| sr <| la 1 ((5, S _ _ _) :: _) rfl <| nn <| cm_join (σ := (List ApiAssign)) (ξ := Hdr) (fun m b => [(5, S b.1 b.2.1 b.2.2)]) (fun m b => [ownE 133 4 encApiAssign b.1 b.2.1 b.2.2 m]) ?_ ?_
 ·refine sr <| la 1 ((8, S _ _ _) :: _) rfl <| vn 9 t rfl <| la 1 ((10, I _) :: _) rfl <| nn <| cm_block <| cm_nilrow 133 4 encApiAssign <| cm_loop (σ := (List ApiAssign) × Int) (ξ := Hdr) (fun g a => [(1, .func (.func 120) #[] #[.pointer (some ⟨e, 0, none⟩), .pointer (some ⟨f, 0, none⟩)]), (5, S a.1 a.2.1 a.2.2), (8, S i j l), (9, I (List.length p0 : Int)), (10, I g.2)]) (fun g a => [ownE 133 4 encApiAssign a.1 a.2.1 a.2.2 g.1]) (none, 0, 0) ?_ ?_ ?_
  ·exact sq
  ·exact sh [0]
  intro g a
  refine sr <| la 1 ((11, B _) :: _) rfl <| nn <| cm_seq <| cc rfl (fun C => ?_) (fun C => ?_)
  ·refine sk <| cm_join (σ := (List ApiAssign)) (ξ := Hdr) (fun o d => [(1, .func (.func 120) #[] #[.pointer (some ⟨e, 0, none⟩), .pointer (some ⟨f, 0, none⟩)]), (5, S d.1 d.2.1 d.2.2), (8, S i j l), (9, I (List.length p0 : Int)), (10, I g.2)]) (fun o d => [ownE 133 4 encApiAssign d.1 d.2.1 d.2.2 o]) ?_ ?_
   ·refine cm_block <| sr <| lm_ck (fun z => ?_)
    refine vi 12 4 q t z rfl rfl <| vr 13 q z rfl <| al 7 [I 0, I 0, I 0, I 0] (v := .agg #[I 0, I 0, I 0, I 0]) rfl fun Q => sA 0 [I _, I _, I _, I _] [_, _, _, _] (H' := [blkE _ _ [_, _, _, _], _]) rfl rfl rfl rfl rfl rfl <| nn <| sr <| la 1 ((14, .func _ _ _) :: _) rfl <| vR 15 [I _, I _, I _, I _] 0 rfl rfl rfl <| lm_call 16 (V := VB) (HR := H0) (by kernel_rfl) (fun w1 => op_callv rfl (by kernel_rfl)) (fun r1 hr1 w1 c1 => m_household_Owner_1_ok N w1 (ix p0 g.2) p1c0 p1c1 e f (c1.oblk x) (c1.oblk y) r1 hr1) fun U X => nn <| cB rfl (fun G => ?_) (fun G => ?_)
    ·refine cm_region <| la 1 ((17, S _ _ _) :: _) rfl <| vR 18 [I _, I _, I _, I _] 0 rfl rfl rfl <| lm_slice1 19 (el := 133) (sz := 4) (bytes := 32) (enc := encApiAssign) (ix p0 g.2) (by kernel_rfl) (by kernel_rfl) encApiAssign_len rfl (by kernel_rfl) fun Y Z a0 a1 => lm_ck (fun J => ?_)
     exact ap 20 2 (el := 133) (sz := 4) (bytes := 32) (enc := encApiAssign) (l2 := ([(ix p0 g.2)])) encApiAssign_len encApiAssign_one rfl rfl rfl (fun w1 c1 => (c1.ownZ 0 rfl)) (fun w1 c1 => (c1.own 0 rfl encApiAssign_len)) J fun K L M => la 1 ((5, S _ _ _) :: _) rfl <| lm_nil <| xm_inN <| xn (K, L, M) [2]
    ·exact cm_skip <| xm_inN <| xn (a.1, a.2.1, a.2.2) [1]
   intro o d
   refine cm_region <| lm_ck (fun O => ?_)
   exact va 21 O rfl rfl <| la 1 ((10, I _) :: _) rfl <| lm_nil <| xn (d.1, d.2.1, d.2.2) [0]
  ·exact cm_exit <| xm_thenE <| xm_lexit <| xm_here <| xn (a.1, a.2.1, a.2.2) [0]
 intro m b
 exact sr <| la 2 ((4, S _ _ _) :: (22, S _ _ _) :: _) rfl <| nn <| cm_ret <| xr [0] (b.1, b.2.1, b.2.2)
/-- household.Owner -/
def m_household_Owner (N : Nat) (p0 : (List ApiAssign)) (p1 : Int) (p2 : Int) : Option (Int × Bool) :=
 Option.bind (m_household_chosen_household_Owner_1 N p0 p1 p2) fun r7 => (if (List.length r7 : Int) = 0 then
  some (((0 : Int), false))
 else
  ck ((0 : Int) ≤ 0 ∧ 0 < (List.length r7 : Int)) (
   some (((ix r7 0).Household, true))))
set_option maxRecDepth 20000 in
theorem m_household_Owner_ok (N : Nat) (w0 : World) (p0 : (List ApiAssign)) (p1 p2 : Int) (a : Ad) (d e : Nat) (f : RdE w0 4 encApiAssign a p0) (g : SW a d e (List.length p0)) (r : Int × Bool) (hr : m_household_Owner N p0 p1 p2 = some r) :
  Ret Tryz.prog 64 [S a d e, I p1, I p2] w0 (fun (r : Int × Bool) (_u : Unit) => .tuple #[I r.1, B r.2]) H0 r := by
 refine calls_v (n := 19) r hr Tryz.func64 ?_
 unfold m_household_Owner
 refine sr <| bx 4 [I _] rfl fun b5 => bx 5 [I _] rfl fun b6 => la 2 ((7, B false) :: (6, I _) :: _) rfl <| nn <| sr <| la 1 ((9, S _ _ _) :: _) rfl <| v_ 10 (fun _ _ => op_makeFuncC [.pointer (some ⟨_, _, _⟩), .pointer (some ⟨_, _, _⟩)] rfl) <| lc 11 (fun r1 hr1 w1 c1 => m_household_chosen_household_Owner_1_ok N w1 p0 p1 p2 a d e b5 b6 (f.old c1) g (c1.blk 1 rfl) (c1.blk 0 rfl) r1 hr1) fun r7 u8 => la 1 ((8, S _ _ _) :: _) rfl <| nn <| cm_seq <| sr <| la 1 ((12, S _ _ _) :: _) rfl <| v_ 13 (fun _ c1 => op_lenN rfl (by kernel_rfl) (c1.ownZ 0 rfl).2.2) <| la 1 ((14, B _) :: _) rfl <| nn <| cc rfl (fun h9 => ?_) (fun h9 => ?_)
 ·exact sr <| la 2 ((7, B false) :: (6, I _) :: _) rfl <| nn <| cm_ret <| xm_thenR <| xrr [] ()
 ·refine sk <| sr <| la 1 ((15, S _ _ _) :: _) rfl <| lm_ck (fun b => ?_)
  exact v_ 16 (fun _ c1 => oI 4 rfl rfl ((c1.own 0 rfl encApiAssign_len).addr b.1 b.2) (c1.ownZ 0 rfl).2.2 b) <| v_ 17 (fun _ _ => op_field (m := 1) rfl (by kernel_rfl)) <| v_ 18 (fun _ c1 => oL (v := I ((ix r7 0).Household)) ((c1.own 0 rfl encApiAssign_len).cell (j := 1) b.1 b.2 rfl)) <| la 2 ((7, B true) :: (6, I _) :: _) rfl <| nn <| cm_ret <| xrr [] ()
/-- emptying.in -/
def m_emptying_in (_N : Nat) (p0 : ApiWindow) (p1 : Int) : Option (Bool) :=
 some (((decide (p0.From ≤ p1)) && (decide (p1 < p0.To))))
set_option maxRecDepth 20000 in
theorem m_emptying_in_ok (N : Nat) (w0 : World) (p0 : ApiWindow) (p1 : Int)   (r : Bool) (hr : m_emptying_in N p0 p1 = some r) :
  Ret Tryz.prog 65 [.agg #[I p0.From, I p0.To], I p1] w0 VB H0 r := by
 refine calls_v (n := 15) r hr Tryz.func65 ?_
 unfold m_emptying_in
 refine sr <| bx 2 [I _, I _] rfl fun b5 => la 1 ((4, B false) :: _) rfl <| nn <| cm_seq <| cm_cutE [(4, B ((decide (p0.From ≤ p1)) && (decide (p1 < p0.To))))] ?_ ?_
 ·refine qf 5 0 0 rfl <| qc 6 0 rfl rfl rfl <| qa 1 ((7, I _) :: _) rfl <| qd 8 (fun _ _ => op_leq rfl rfl) (fun h6 => ?_) (fun h6 => ?_)
  ·exact qa 2 ((10, I _) :: (9, B true) :: _) rfl <| qf 11 1 1 rfl <| qc 12 0 rfl rfl rfl <| qa 3 ((4, B _) :: (14, B _) :: (13, B _) :: _) rfl <| lb 11 rfl (by rw [dt h6] <;> rfl)
  ·exact qa 7 ((4, B false) :: (14, B false) :: uz 13 4 ((9, B false) :: _)) rfl <| lb 11 rfl (by rw [df h6] <;> rfl)
 exact xm_next <| cm_ret <| xr [] ()
/-- emptying.Of$1 -/
def m_emptying_Of_1 (N : Nat) (p0 : Int) (q0 : (List ApiAssign)) (q1 : (List ApiEmptying)) (q2 : ApiWindow) (q3 : Int) : Option (Bool) :=
 ck (0 ≤ p0 ∧ p0 < (List.length q1 : Int)) (
  ck (0 ≤ p0 ∧ p0 < (List.length q1 : Int)) (
   Option.bind (m_household_Owner N q0 ((ix q1 p0).Container) ((ix q1 p0).At)) fun r7 => ck (0 ≤ p0 ∧ p0 < (List.length q1 : Int)) (
    Option.bind (m_emptying_in N q2 ((ix q1 p0).At)) fun a => some ((((!a) || (!r7.2)) || (decide (r7.1 ≠ q3)))))))
set_option maxRecDepth 20000 in
theorem m_emptying_Of_1_ok (N : Nat) (w0 : World) (p0 : Int) (q0 : (List ApiAssign)) (q1 : (List ApiEmptying)) (q2 : ApiWindow) (q3 : Int) (t : Nat) (b : Ad) (e f x : Nat) (g : Ad) (l o : Nat) (y z : Nat) (K : Blk w0 t 24 [S b e f]) (C : RdE w0 4 encApiAssign b q0) (G : SW b e f (List.length q0)) (i : Blk w0 x 25 [S g l o]) (a : RdE w0 7 encApiEmptying g q1) (d : SW g l o (List.length q1)) (L : Blk w0 y 49 [I q2.From, I q2.To]) (M : Blk w0 z 3 [I q3]) (r : Bool) (hr : m_emptying_Of_1 N p0 q0 q1 q2 q3 = some r) :
  Ret Tryz.prog 63 [I p0, .pointer (some ⟨t, 0, none⟩), .pointer (some ⟨x, 0, none⟩), .pointer (some ⟨y, 0, none⟩), .pointer (some ⟨z, 0, none⟩)] w0 VB H0 r := by
 refine calls_v (n := 41) r hr Tryz.func63 ?_
 unfold m_emptying_Of_1
 refine sr <| la 1 ((6, B false) :: _) rfl <| nn <| cm_seq <| cm_ck (fun h5 => ?_)
 refine cm_ck (fun h6 => ?_)
 refine cm_bind fun r7 h8 => cm_drawn [(7, I r7.1), (8, B r7.2)] (by kernel_rfl) (by kernel_rfl) ?_ ?_
 ·exact q_ 10 (fun _ c1 => oL (c1.ocell (K.at_ 0 (u := S _ _ _) rfl))) <| q_ 11 (fun _ c1 => oL (c1.ocell (i.at_ 0 (u := S _ _ _) rfl))) <| qa 1 ((12, I _) :: _) rfl <| qi 13 7 a d h5 rfl rfl <| q_ 14 (fun _ _ => op_field (m := 1) rfl (by kernel_rfl)) <| q_ 15 (fun _ c1 => oL (v := I ((ix q1 p0).Container)) ((a.old c1).cell (j := 1) h5.1 h5.2 rfl)) <| q_ 16 (fun _ c1 => oL (c1.ocell (i.at_ 0 (u := S _ _ _) rfl))) <| qa 1 ((17, I _) :: _) rfl <| qi 18 7 a d h6 rfl rfl <| q_ 19 (fun _ _ => op_field (m := 3) rfl (by kernel_rfl)) <| q_ 20 (fun _ c1 => oL (v := I ((ix q1 p0).At)) ((a.old c1).cell (j := 3) h6.1 h6.2 rfl)) <| qk 21 (fun w1 c1 => m_household_Owner_ok N w1 q0 ((ix q1 p0).Container) ((ix q1 p0).At) b e f (C.old c1) G r7 h8) <| qa 5 ((8, B _) :: (7, I _) :: (23, B _) :: (22, I _) :: (9, .tuple _) :: _) rfl <| lq 17
 refine xm_next <| cm_seq <| cm_ck (fun h9 => ?_)
 refine cm_bind fun O Q => cm_drawn [(6, B (((!O) || (!r7.2)) || (decide (r7.1 ≠ q3))))] (by kernel_rfl) (by kernel_rfl) ?_ ?_
 ·refine q_ 24 (fun _ c1 => oR [I _, I _] (c1.ocells L rfl)) <| q_ 25 (fun _ c1 => oL (c1.ocell (i.at_ 0 (u := S _ _ _) rfl))) <| qa 1 ((26, I _) :: _) rfl <| qi 27 7 a d h9 rfl rfl <| q_ 28 (fun _ _ => op_field (m := 3) rfl (by kernel_rfl)) <| q_ 29 (fun _ c1 => oL (v := I ((ix q1 p0).At)) ((a.old c1).cell (j := 3) h9.1 h9.2 rfl)) <| qkb 30 (fun w1 c1 => m_emptying_in_ok N w1 q2 ((ix q1 p0).At)  O Q) (fun q => ?_) (fun q => ?_)
  ·refine qa 2 ((32, B false) :: (31, B false) :: _) rfl <| wq_bool 33 (by kernel_rfl) (fun w1 c1 => (op_move (v := B _) rfl)) (fun J => ?_) (fun J => ?_)
   ·exact qa 4 ((37, I _) :: (36, B false) :: (35, B false) :: (34, B false) :: _) rfl <| q_ 38 (fun _ c1 => oL (c1.ocell (M.at_ 0 (u := I _) rfl))) <| qa 3 ((6, B _) :: (40, B _) :: (39, B _) :: _) rfl <| lb 18 rfl (by rw [q, J] <;> rfl)
   ·exact qa 8 ((6, B true) :: (40, B true) :: uz 39 3 ((36, B true) :: (35, B true) :: (34, B true) :: _)) rfl <| lb 18 rfl (by rw [q, J] <;> rfl)
  ·exact qa 11 ((6, B true) :: (40, B true) :: uz 39 3 ((36, B true) :: (35, B true) :: (34, undef) :: (33, undef) :: (32, B true) :: (31, B true) :: _)) rfl <| lb 18 rfl (by rw [q] <;> rfl)
 exact xm_next <| cm_ret <| xr [] ()
/-- slices.IndexFunc -/
def m_slices_IndexFunc_emptying_Of_1 (N : Nat) (p0 : (List Int)) (p1c0 : (List ApiAssign)) (p1c1 : (List ApiEmptying)) (p1c2 : ApiWindow) (p1c3 : Int) : Option (Int) :=
 (andThen
  (loopM (fun (a : Int) =>
   (if a < (List.length p0 : Int) then
    ck (0 ≤ a ∧ a < (List.length p0 : Int)) (
     Option.bind (m_emptying_Of_1 N (ix p0 a) p1c0 p1c1 p1c2 p1c3) fun b => (if b = true then
      some (.done (.done (a)))
     else
      ck (I64 (a + 1)) (
       some (.next (a + 1)))))
   else
    some (.done (.next ())))) N 0)
 fun (_s29 : Unit) =>
  some ((-1 : Int)))
set_option maxRecDepth 20000 in
theorem m_slices_IndexFunc_emptying_Of_1_ok (N : Nat) (w0 : World) (p0 : (List Int)) (p1c0 : (List ApiAssign)) (p1c1 : (List ApiEmptying)) (p1c2 : ApiWindow) (p1c3 : Int) (o : Ad) (t x d : Nat) (a : Ad) (i j e : Nat) (b : Ad) (l m : Nat) (f g : Nat) (J : RdE w0 1 encI o p0) (K : SW o t x (List.length p0)) (L : Blk w0 d 24 [S a i j]) (y : RdE w0 4 encApiAssign a p1c0) (z : SW a i j (List.length p1c0)) (M : Blk w0 e 25 [S b l m]) (C : RdE w0 7 encApiEmptying b p1c1) (G : SW b l m (List.length p1c1)) (O : Blk w0 f 49 [I p1c2.From, I p1c2.To]) (Q : Blk w0 g 3 [I p1c3]) (r : Int) (hr : m_slices_IndexFunc_emptying_Of_1 N p0 p1c0 p1c1 p1c2 p1c3 = some r) :
  Ret Tryz.prog 118 [S o t x, .func (.func 63) #[] #[.pointer (some ⟨d, 0, none⟩), .pointer (some ⟨e, 0, none⟩), .pointer (some ⟨f, 0, none⟩), .pointer (some ⟨g, 0, none⟩)]] w0 VI H0 r := by
 refine calls_v (n := 19) r hr Tryz.func118 ?_
 unfold m_slices_IndexFunc_emptying_Of_1
 refine sr <| la 1 ((4, I _) :: _) rfl <| nn <| cm_join (σ := Unit) (ξ := Unit) (fun X Y => []) (fun X Y => []) ?_ ?_
 ·refine sr <| la 1 ((6, S _ _ _) :: _) rfl <| vn 7 K rfl <| la 1 ((8, I _) :: _) rfl <| nn <| cm_block <| cm_loop (σ := Int) (ξ := Unit) (fun q Z => [(0, S o t x), (1, .func (.func 63) #[] #[.pointer (some ⟨d, 0, none⟩), .pointer (some ⟨e, 0, none⟩), .pointer (some ⟨f, 0, none⟩), .pointer (some ⟨g, 0, none⟩)]), (7, I (List.length p0 : Int)), (8, I q)]) (fun q Z => []) () ?_ ?_ ?_
  ·exact sq
  ·exact sh []
  intro q Z
  refine sr <| la 1 ((9, B _) :: _) rfl <| nn <| cm_seq <| cc rfl (fun a0 => ?_) (fun a0 => ?_)
  ·refine sk <| cm_seq <| cm_block <| sr <| la 2 ((5, I _) :: (10, I _) :: _) rfl <| nn <| sr <| la 3 ((13, I _) :: (12, S _ _ _) :: (11, .func _ _ _) :: _) rfl <| lm_ck (fun U => ?_)
   refine vi 14 1 J K U rfl rfl <| v_ 15 (fun _ c1 => oL (v := I (ix p0 q)) ((J.old c1).cell0 U.1 U.2 rfl)) <| lm_call 16 (V := VB) (HR := H0) (by kernel_rfl) (fun w1 => op_callv rfl (by kernel_rfl)) (fun r1 hr1 w1 c1 => m_emptying_Of_1_ok N w1 (ix p0 q) p1c0 p1c1 p1c2 p1c3 d a i j e b l m f g (c1.oblk L) (y.old c1) z (c1.oblk M) (C.old c1) G (c1.oblk O) (c1.oblk Q) r1 hr1) fun a3 a4 => nn <| cB rfl (fun a1 => ?_) (fun a1 => ?_)
   ·exact sr <| la 2 ((4, I _) :: (17, I _) :: _) rfl <| nn <| cm_ret <| xm_inR <| xm_thenR <| xm_lret <| xm_inR <| xm_lret <| xr [] ()
   ·refine cm_skip <| xm_inN <| xm_next <| cm_region <| lm_ck (fun a2 => ?_)
    exact va 18 a2 rfl rfl <| la 1 ((8, I _) :: _) rfl <| lm_nil <| xn () []
  ·exact cm_exit <| xm_thenE <| xm_lexit <| xm_here <| xm_lnext () sub_nil (sh [])
 intro X Y
 exact sr <| la 1 ((4, I _) :: _) rfl <| nn <| cm_ret <| xr [] ()
/-- slices.DeleteFunc -/
def m_slices_DeleteFunc (N : Nat) (p0 : (List Int)) (p1c0 : (List ApiAssign)) (p1c1 : (List ApiEmptying)) (p1c2 : ApiWindow) (p1c3 : Int) : Option ((List Int)) :=
 Option.bind (m_slices_IndexFunc_emptying_Of_1 N p0 p1c0 p1c1 p1c2 p1c3) fun d => (if d = -1 then
  some (p0)
 else
  (andThen
   (ck (I64 (d + 1)) (
    (loopM (fun (a : (List Int) × Int × Int) =>
     (if a.2.2 < (List.length a.1 : Int) then
      (andThen
       (ck (0 ≤ a.2.2 ∧ a.2.2 < (List.length a.1 : Int)) (
        Option.bind (m_emptying_Of_1 N (ix a.1 a.2.2) p1c0 p1c1 p1c2 p1c3) fun f => (if (!f) = true then
         ck (0 ≤ a.2.1 ∧ a.2.1 < (List.length a.1 : Int)) (
          ck (I64 (a.2.1 + 1)) (
           some (.next ((List.set a.1 (Int.toNat a.2.1) (ix a.1 a.2.2)), (a.2.1 + 1)))))
        else
         some (.next (a.1, a.2.1)))))
      fun (e : (List Int) × Int) =>
       ck (I64 (a.2.2 + 1)) (
        some (.next (e.1, e.2, (a.2.2 + 1)))))
     else
      some (.done (.next (a.1, a.2.1))))) N (p0, d, (d + 1)))))
  fun (b : (List Int) × Int) =>
   ck (0 ≤ b.2 ∧ b.2 ≤ (List.length b.1 : Int)) (
    ck (0 ≤ b.2 ∧ b.2 ≤ (List.length (clearAt b.1 (Int.toNat b.2) (0 : Int)) : Int)) (
     some ((List.take (Int.toNat b.2) (clearAt b.1 (Int.toNat b.2) (0 : Int))))))))
set_option maxHeartbeats 2000000 in
set_option maxRecDepth 20000 in
theorem m_slices_DeleteFunc_ok (N : Nat) (w0 w : World) (F : List HE) (p0 : (List Int)) (p1c0 : (List ApiAssign)) (p1c1 : (List ApiEmptying)) (p1c2 : ApiWindow) (p1c3 : Int) (q : Ad) (z t a : Nat) (f : Ad) (i j b : Nat) (g : Ad) (m o : Nat) (d e : Nat) (L : RdE w0 4 encApiAssign f p1c0) (M : SW f i j (List.length p1c0)) (O : RdE w0 7 encApiEmptying g p1c1) (Q : SW g m o (List.length p1c1)) (hw : Hs w0 ([ownE 3 1 encI q z t p0, blkE a 24 [S f i j], blkE b 25 [S g m o], blkE d 49 [I p1c2.From, I p1c2.To], blkE e 3 [I p1c3]] ++ [packE w0.heap.size F]) w) (r : (List Int)) (hr : m_slices_DeleteFunc N p0 p1c0 p1c1 p1c2 p1c3 = some r) :
  Calls Tryz.prog 62 [S q z t, .func (.func 63) #[] #[.pointer (some ⟨a, 0, none⟩), .pointer (some ⟨b, 0, none⟩), .pointer (some ⟨d, 0, none⟩), .pointer (some ⟨e, 0, none⟩)]].toArray w fun x w1 => ∃ u, x = .returned ((fun (_r : (List Int)) (u : Nat) => (S q u t : Value)) r u) ∧ Hs w0 ((fun (r : (List Int)) (u : Nat) => [ownE 3 1 encI q u t r, blkE a 24 [S f i j], blkE b 25 [S g m o], blkE d 49 [I p1c2.From, I p1c2.To], blkE e 3 [I p1c3]]) r u ++ [packE w0.heap.size F]) w1 := by
 refine calls_cmH (n := 42) (R := fun r x w1 => ∃ u, x = .returned ((fun (_r : (List Int)) (u : Nat) => (S q u t : Value)) r u) ∧ Hs w0 ((fun (r : (List Int)) (u : Nat) => [ownE 3 1 encI q u t r, blkE a 24 [S f i j], blkE b 25 [S g m o], blkE d 49 [I p1c2.From, I p1c2.To], blkE e 3 [I p1c3]]) r u ++ [packE w0.heap.size F]) w1) Tryz.func62 rfl rfl (Nat.le_of_ble_eq_true rfl) ?_ hw r hr
 unfold m_slices_DeleteFunc
 refine sr <| la 1 ((4, S _ _ _) :: _) rfl <| nn <| sr <| la 2 ((9, .func _ _ _) :: (8, S _ _ _) :: _) rfl <| lc 10 (fun r1 hr1 w1 c1 => m_slices_IndexFunc_emptying_Of_1_ok N w1 p0 p1c0 p1c1 p1c2 p1c3 q z t a f i j b g m o d e (c1.own 0 rfl encI_len) (c1.ownZ 0 rfl) (c1.blk 1 rfl) (L.old c1) M (c1.blk 2 rfl) (O.old c1) Q (c1.blk 3 rfl) (c1.blk 4 rfl) r1 hr1) fun a7 a8 => la 1 ((5, I _) :: _) rfl <| nn <| cm_seq <| sr <| la 2 ((12, B _) :: (11, I _) :: _) rfl <| nn <| cc rfl (fun a1 => ?_) (fun a1 => ?_)
 ·exact sr <| la 2 ((4, S _ _ _) :: (13, S _ _ _) :: _) rfl <| nn <| cm_ret <| xm_thenR <| xr [0, 1, 2, 3, 4, 5] z
 ·refine sk <| cm_join (σ := (List Int) × Int) (ξ := Unit) (fun C Y => [(0, S q z t), (5, I C.2)]) (fun C Y => [ownE 3 1 encI q z t C.1, blkE a 24 [S f i j], blkE b 25 [S g m o], blkE d 49 [I p1c2.From, I p1c2.To], blkE e 3 [I p1c3], packE w0.heap.size F]) ?_ ?_
  ·refine sr <| la 1 ((14, I _) :: _) rfl <| lm_ck (fun a2 => ?_)
   refine va 15 a2 rfl rfl <| la 1 ((6, I _) :: _) rfl <| nn <| cm_block <| cm_loop (σ := (List Int) × Int × Int) (ξ := Unit) (fun y Z => [(0, S q z t), (1, .func (.func 63) #[] #[.pointer (some ⟨a, 0, none⟩), .pointer (some ⟨b, 0, none⟩), .pointer (some ⟨d, 0, none⟩), .pointer (some ⟨e, 0, none⟩)]), (5, I y.2.1), (6, I y.2.2)]) (fun y Z => [ownE 3 1 encI q z t y.1, blkE a 24 [S f i j], blkE b 25 [S g m o], blkE d 49 [I p1c2.From, I p1c2.To], blkE e 3 [I p1c3], packE w0.heap.size F]) () ?_ ?_ ?_
   ·exact sq
   ·exact sh [0, 1, 2, 3, 4, 5]
   intro y Z
   refine cm_seq <| sr <| la 2 ((17, S _ _ _) :: (16, I _) :: _) rfl <| v_ 18 (fun _ c1 => op_lenN rfl (by kernel_rfl) (c1.ownZ 0 rfl).2.2) <| la 1 ((19, B _) :: _) rfl <| nn <| cc rfl (fun a3 => ?_) (fun a3 => ?_)
   ·refine sk <| cm_join (σ := (List Int) × Int) (ξ := Unit) (fun U a0 => [(0, S q z t), (1, .func (.func 63) #[] #[.pointer (some ⟨a, 0, none⟩), .pointer (some ⟨b, 0, none⟩), .pointer (some ⟨d, 0, none⟩), .pointer (some ⟨e, 0, none⟩)]), (5, I U.2), (6, I y.2.2)]) (fun U a0 => [ownE 3 1 encI q z t U.1, blkE a 24 [S f i j], blkE b 25 [S g m o], blkE d 49 [I p1c2.From, I p1c2.To], blkE e 3 [I p1c3], packE w0.heap.size F]) ?_ ?_
    ·refine cm_block <| sr <| la 2 ((23, I _) :: (22, S _ _ _) :: _) rfl <| lm_ck (fun G => ?_)
     refine v_ 24 (fun _ c1 => oI 1 rfl rfl ((c1.own 0 rfl encI_len).addr G.1 G.2) (c1.ownZ 0 rfl).2.2 G) <| v_ 25 (fun _ c1 => oL (v := I (ix y.1 y.2.2)) ((c1.own 0 rfl encI_len).cell0 G.1 G.2 rfl)) <| la 1 ((7, I _) :: _) rfl <| nn <| sr <| la 2 ((27, I _) :: (26, .func _ _ _) :: _) rfl <| lm_call 28 (V := VB) (HR := H0) (by kernel_rfl) (fun w1 => op_callv rfl (by kernel_rfl)) (fun r1 hr1 w1 c1 => m_emptying_Of_1_ok N w1 (ix y.1 y.2.2) p1c0 p1c1 p1c2 p1c3 a f i j b g m o d e (c1.blk 1 rfl) (L.old c1) M (c1.blk 2 rfl) (O.old c1) Q (c1.blk 3 rfl) (c1.blk 4 rfl) r1 hr1) fun a9 aa => la 1 ((29, B _) :: _) rfl <| nn <| cB rfl (fun a4 => ?_) (fun a4 => ?_)
     ·refine sr <| la 3 ((32, I _) :: (31, I _) :: (30, S _ _ _) :: _) rfl <| lm_ck (fun J => ?_)
      refine v_ 33 (fun _ c1 => oI 1 rfl rfl ((c1.own 0 rfl encI_len).addr J.1 J.2) (c1.ownZ 0 rfl).2.2 J) <| lm_storeIx 0 (ix y.1 y.2.2) 0 [I _] (by kernel_rfl) rfl rfl (by kernel_rfl) rfl rfl rfl encI_len encI_one J.1 J.2 (by kernel_rfl) rfl <| nn <| cm_region <| la 1 ((34, I _) :: _) rfl <| lm_ck (fun a5 => ?_)
      exact va 35 a5 rfl rfl <| la 1 ((5, I _) :: _) rfl <| lm_nil <| xm_inN <| xn () [0, 1, 2, 3, 4, 5]
     ·exact cm_skip <| xm_inN <| xn () [0, 1, 2, 3, 4, 5]
    intro U a0
    refine cm_region <| la 1 ((20, I _) :: _) rfl <| lm_ck (fun a6 => ?_)
    exact va 21 a6 rfl rfl <| la 1 ((6, I _) :: _) rfl <| lm_nil <| xn () [0, 1, 2, 3, 4, 5]
   ·exact cm_exit <| xm_thenE <| xm_lexit <| xm_here <| xn () [0, 1, 2, 3, 4, 5]
  intro C Y
  refine sr <| la 2 ((37, I _) :: (36, S _ _ _) :: _) rfl <| lm_ck (fun K => ?_)
  refine v_ 38 (fun _ c1 => op_sliceFrom (l := C.1) 1 rfl rfl (by kernel_rfl) (by kernel_rfl) (c1.ownZ 0 rfl) K.1 K.2) <| lm_clear 0 (bytes := 8) (Int.toNat C.2) (0 : Int) (by kernel_rfl) (by kernel_rfl) encI_len encI_one rfl rfl rfl rfl rfl (fun w1 c1 => adv_at (c1.own 0 rfl encI_len) (c1.ownZ 0 rfl) K.1 K.2) (fun w1 c1 => by rw [(c1.ownZ 0 rfl).2.2]) (by have := K.2; omega) <| nn <| sr <| la 2 ((40, I _) :: (39, S _ _ _) :: _) rfl <| lm_ck (fun X => ?_)
  exact v_ 41 (fun _ c1 => op_sliceTo2 (l := (clearAt C.1 (Int.toNat C.2) (0 : Int))) rfl rfl (by kernel_rfl) (by kernel_rfl) (c1.ownZ 0 rfl) X.1 X.2) <| la 1 ((4, S _ _ _) :: _) rfl <| nn <| cm_ret <| xm_cut 0 rfl encI_len X.1 X.2 rfl <| xr [0, 1, 2, 3, 4, 5] (Int.toNat C.2)
/-- emptying.Of -/
def m_emptying_Of (N : Nat) (p0 : (List ApiEmptying)) (p1 : (List ApiAssign)) (p2 : Int) (p3 : ApiWindow) (p4 : Int) : Option ((List Int) × Int) :=
 Option.bind (m_emptying_Counts N p0 p4) fun r9 => (if r9.2 ≠ 0 then
  some ((([] : List Int), r9.2))
 else
  Option.bind (m_emptying_window N p3) fun a => (if (!a) = true then
   some ((([] : List Int), (1 : Int)))
  else
   Option.bind (m_slices_DeleteFunc N r9.1 p1 p0 p3 p2) fun b => some ((b, (0 : Int)))))
set_option maxRecDepth 20000 in
theorem m_emptying_Of_ok (N : Nat) (w0 : World) (p0 : (List ApiEmptying)) (p1 : (List ApiAssign)) (p2 : Int) (p3 : ApiWindow) (p4 : Int) (b : Ad) (d e : Nat) (f : Ad) (g i : Nat) (j : RdE w0 7 encApiEmptying b p0) (l : SW b d e (List.length p0)) (m : RdE w0 4 encApiAssign f p1) (o : SW f g i (List.length p1)) (r : (List Int) × Int) (hr : m_emptying_Of N p0 p1 p2 p3 p4 = some r) :
  Ret Tryz.prog 24 [S b d e, S f g i, I p2, .agg #[I p3.From, I p3.To], I p4] w0 (fun (r : (List Int) × Int) (u : Hdr) => .tuple #[S u.1 u.2.1 u.2.2, I r.2]) (fun (r : (List Int) × Int) (u : Hdr) => [ownE 3 1 encI u.1 u.2.1 u.2.2 r.1]) r := by
 refine calls_v (n := 29) r hr Tryz.func24 ?_
 unfold m_emptying_Of
 refine sr <| bx 5 [S _ _ _] rfl fun b5 => bx 6 [S _ _ _] rfl fun b6 => bx 7 [I _] rfl fun b7 => bx 8 [I _, I _] rfl fun b8 => la 2 ((11, I _) :: (10, S _ _ _) :: _) rfl <| nn <| sr <| vc 15 3 rfl rfl rfl <| la 1 ((16, I _) :: _) rfl <| lc 17 (fun r1 hr1 w1 c1 => m_emptying_Counts_ok N w1 p0 p4 b d e (j.old c1) l r1 hr1) fun r9 a => la 5 ((13, I _) :: (12, S _ _ _) :: (19, I _) :: (18, S _ _ _) :: (14, .tuple _) :: _) rfl <| nn <| cm_seq <| sr <| la 2 ((21, B _) :: (20, I _) :: _) rfl <| nn <| cc rfl (fun q => ?_) (fun q => ?_)
 ·exact sr <| la 3 ((11, I _) :: (10, S _ _ _) :: (22, I _) :: _) rfl <| nn <| cm_ret <| xm_thenR <| xm_nilrow 3 1 encI <| xrr [0] (none, 0, 0)
 ·refine sk <| cm_seq <| sr <| vR 23 [I _, I _] 1 rfl rfl rfl <| lc 24 (fun r1 hr1 w1 c1 => m_emptying_window_ok N w1 p3  r1 hr1) fun x y => la 1 ((25, B _) :: _) rfl <| nn <| cB rfl (fun t => ?_) (fun t => ?_)
  ·exact sr <| la 2 ((11, I _) :: (10, S _ _ _) :: _) rfl <| nn <| cm_ret <| xm_thenR <| xm_nilrow 3 1 encI <| xrr [0] (none, 0, 0)
  ·exact sk <| sr <| la 1 ((26, S _ _ _) :: _) rfl <| v_ 27 (fun _ _ => op_makeFuncC [.pointer (some ⟨_, _, _⟩), .pointer (some ⟨_, _, _⟩), .pointer (some ⟨_, _, _⟩), .pointer (some ⟨_, _, _⟩)] rfl) <| lm_callH 28 (V := (fun (_r : (List Int)) (u : Nat) => (S a.1 u a.2.2 : Value))) [ownE 3 1 encI a.1 a.2.1 a.2.2 r9.1, blkE b6 24 [S f g i], blkE b5 25 [S b d e], blkE b8 49 [I p3.From, I p3.To], blkE b7 3 [I p2]] [] (O := (fun (r : (List Int)) (u : Nat) => [ownE 3 1 encI a.1 u a.2.2 r, blkE b6 24 [S f g i], blkE b5 25 [S b d e], blkE b8 49 [I p3.From, I p3.To], blkE b7 3 [I p2]])) (sh [0, 3, 4, 1, 2]) (by kernel_rfl) (fun w1 => op_call (by kernel_rfl)) (fun r1 hr1 w1 c1 => m_slices_DeleteFunc_ok N w0 w1 [] r9.1 p1 p0 p3 p2 a.1 a.2.1 a.2.2 b6 f g i b5 b d e b8 b7 m o j l c1 r1 hr1) fun z v => la 2 ((11, I _) :: (10, S _ _ _) :: _) rfl <| nn <| cm_ret <| xrr [0] (a.1, v, a.2.2)
end Go.Proofs.YtbnimhmoffchdaaGreatDoor
