/- Models of functions, and that the code follows them. Written by deco.py. -/
import Derived.Test.YtbnimhmoffchdaaDoorATab
namespace Go.Proofs.YtbnimhmoffchdaaDoor
open Go.RowKit
set_option linter.unusedSectionVars false
variable [JF]

structure ApiHousehold where
 ID : ByteArray
 Persons : Int
deriving DecidableEq, Inhabited
def encApiHousehold (x : ApiHousehold) : List Value := [.string x.ID, .int .i64 x.Persons]
def valApiHousehold (x : ApiHousehold) : Value := .agg #[.string x.ID, .int .i64 x.Persons]
theorem encApiHousehold_len (x : ApiHousehold) : (encApiHousehold x).length = 2 := rfl
theorem encApiHousehold_one (x : ApiHousehold) : (encApiHousehold x).all Value.oneCell' = true := rfl
structure ApiContainer where
 ID : ByteArray
 Kind : Int
 Litres : Int
 Grams : Int
 Node : Int
deriving DecidableEq, Inhabited
def encApiContainer (x : ApiContainer) : List Value := [.string x.ID, .int .i64 x.Kind, .int .i64 x.Litres, .int .i64 x.Grams, .int .i64 x.Node]
def valApiContainer (x : ApiContainer) : Value := .agg #[.string x.ID, .int .i64 x.Kind, .int .i64 x.Litres, .int .i64 x.Grams, .int .i64 x.Node]
theorem encApiContainer_len (x : ApiContainer) : (encApiContainer x).length = 5 := rfl
theorem encApiContainer_one (x : ApiContainer) : (encApiContainer x).all Value.oneCell' = true := rfl
structure ApiWindow where
 From : Int
 To : Int
deriving DecidableEq, Inhabited
def encApiWindow (x : ApiWindow) : List Value := [.int .i64 x.From, .int .i64 x.To]
def valApiWindow (x : ApiWindow) : Value := .agg #[.int .i64 x.From, .int .i64 x.To]
theorem encApiWindow_len (x : ApiWindow) : (encApiWindow x).length = 2 := rfl
theorem encApiWindow_one (x : ApiWindow) : (encApiWindow x).all Value.oneCell' = true := rfl
structure ApiAssign where
 Container : Int
 Household : Int
 When : ApiWindow
deriving DecidableEq, Inhabited
def encApiAssign (x : ApiAssign) : List Value := [.int .i64 x.Container, .int .i64 x.Household, .int .i64 x.When.From, .int .i64 x.When.To]
def valApiAssign (x : ApiAssign) : Value := .agg #[.int .i64 x.Container, .int .i64 x.Household, .int .i64 x.When.From, .int .i64 x.When.To]
theorem encApiAssign_len (x : ApiAssign) : (encApiAssign x).length = 4 := rfl
theorem encApiAssign_one (x : ApiAssign) : (encApiAssign x).all Value.oneCell' = true := rfl
structure ApiSpan where
 Lo : Int
 Hi : Int
deriving DecidableEq, Inhabited
def encApiSpan (x : ApiSpan) : List Value := [.int .i64 x.Lo, .int .i64 x.Hi]
def valApiSpan (x : ApiSpan) : Value := .agg #[.int .i64 x.Lo, .int .i64 x.Hi]
theorem encApiSpan_len (x : ApiSpan) : (encApiSpan x).length = 2 := rfl
theorem encApiSpan_one (x : ApiSpan) : (encApiSpan x).all Value.oneCell' = true := rfl
structure ApiEmptying where
 ID : Int
 Container : Int
 Vehicle : Int
 At : Int
 Mass : ApiSpan
 Void : Bool
deriving DecidableEq, Inhabited
def encApiEmptying (x : ApiEmptying) : List Value := [.int .i64 x.ID, .int .i64 x.Container, .int .i64 x.Vehicle, .int .i64 x.At, .int .i64 x.Mass.Lo, .int .i64 x.Mass.Hi, .bool x.Void]
def valApiEmptying (x : ApiEmptying) : Value := .agg #[.int .i64 x.ID, .int .i64 x.Container, .int .i64 x.Vehicle, .int .i64 x.At, .int .i64 x.Mass.Lo, .int .i64 x.Mass.Hi, .bool x.Void]
theorem encApiEmptying_len (x : ApiEmptying) : (encApiEmptying x).length = 7 := rfl
theorem encApiEmptying_one (x : ApiEmptying) : (encApiEmptying x).all Value.oneCell' = true := rfl
structure ApiTariff where
 From : Int
 Base : Int
 Empty : Int
 Kilo : Int
 Free : Int
deriving DecidableEq, Inhabited
def encApiTariff (x : ApiTariff) : List Value := [.int .i64 x.From, .int .i64 x.Base, .int .i64 x.Empty, .int .i64 x.Kilo, .int .i64 x.Free]
def valApiTariff (x : ApiTariff) : Value := .agg #[.int .i64 x.From, .int .i64 x.Base, .int .i64 x.Empty, .int .i64 x.Kilo, .int .i64 x.Free]
theorem encApiTariff_len (x : ApiTariff) : (encApiTariff x).length = 5 := rfl
theorem encApiTariff_one (x : ApiTariff) : (encApiTariff x).all Value.oneCell' = true := rfl
structure ApiAccount where
 Households : (List ApiHousehold)
 Containers : (List ApiContainer)
 Assigns : (List ApiAssign)
 Emptyings : (List ApiEmptying)
 Tariffs : (List ApiTariff)
 Gap : Int
deriving Inhabited
structure ApiTransfer where
 From : Int
 To : Int
 Mass : ApiSpan
deriving DecidableEq, Inhabited
def encApiTransfer (x : ApiTransfer) : List Value := [.int .i64 x.From, .int .i64 x.To, .int .i64 x.Mass.Lo, .int .i64 x.Mass.Hi]
def valApiTransfer (x : ApiTransfer) : Value := .agg #[.int .i64 x.From, .int .i64 x.To, .int .i64 x.Mass.Lo, .int .i64 x.Mass.Hi]
theorem encApiTransfer_len (x : ApiTransfer) : (encApiTransfer x).length = 4 := rfl
theorem encApiTransfer_one (x : ApiTransfer) : (encApiTransfer x).all Value.oneCell' = true := rfl
structure ApiBale where
 ID : Int
 Material : Int
 At : Int
 Mix : (List Int)
deriving Inhabited
def encApiBale (x : ApiBale) (d1 : Hdr) : List Value := [.int .i64 x.ID, .int .i64 x.Material, .int .i64 x.At, .slice d1.1 d1.2.1 d1.2.2]
structure ApiProduct where
 Code : ByteArray
 Producer : Int
 Deposit : Int
 Material : Int
 Grams : Int
deriving DecidableEq, Inhabited
def encApiProduct (x : ApiProduct) : List Value := [.string x.Code, .int .i64 x.Producer, .int .i64 x.Deposit, .int .i64 x.Material, .int .i64 x.Grams]
def valApiProduct (x : ApiProduct) : Value := .agg #[.string x.Code, .int .i64 x.Producer, .int .i64 x.Deposit, .int .i64 x.Material, .int .i64 x.Grams]
theorem encApiProduct_len (x : ApiProduct) : (encApiProduct x).length = 5 := rfl
theorem encApiProduct_one (x : ApiProduct) : (encApiProduct x).all Value.oneCell' = true := rfl
structure ApiSale where
 Product : Int
 First : Int
 Count : Int
 Retailer : Int
 At : Int
deriving DecidableEq, Inhabited
def encApiSale (x : ApiSale) : List Value := [.int .i64 x.Product, .int .i64 x.First, .int .i64 x.Count, .int .i64 x.Retailer, .int .i64 x.At]
def valApiSale (x : ApiSale) : Value := .agg #[.int .i64 x.Product, .int .i64 x.First, .int .i64 x.Count, .int .i64 x.Retailer, .int .i64 x.At]
theorem encApiSale_len (x : ApiSale) : (encApiSale x).length = 5 := rfl
theorem encApiSale_one (x : ApiSale) : (encApiSale x).all Value.oneCell' = true := rfl
structure ApiClaim where
 Serial : Int
 Machine : Int
 Seq : Int
 At : Int
 Paid : Bool
deriving DecidableEq, Inhabited
def encApiClaim (x : ApiClaim) : List Value := [.int .i64 x.Serial, .int .i64 x.Machine, .int .i64 x.Seq, .int .i64 x.At, .bool x.Paid]
def valApiClaim (x : ApiClaim) : Value := .agg #[.int .i64 x.Serial, .int .i64 x.Machine, .int .i64 x.Seq, .int .i64 x.At, .bool x.Paid]
theorem encApiClaim_len (x : ApiClaim) : (encApiClaim x).length = 5 := rfl
theorem encApiClaim_one (x : ApiClaim) : (encApiClaim x).all Value.oneCell' = true := rfl
structure ApiPayout where
 Claim : ApiClaim
 Product : Int
 Amount : Int
deriving DecidableEq, Inhabited
def encApiPayout (x : ApiPayout) : List Value := [.int .i64 x.Claim.Serial, .int .i64 x.Claim.Machine, .int .i64 x.Claim.Seq, .int .i64 x.Claim.At, .bool x.Claim.Paid, .int .i64 x.Product, .int .i64 x.Amount]
def valApiPayout (x : ApiPayout) : Value := .agg #[.int .i64 x.Claim.Serial, .int .i64 x.Claim.Machine, .int .i64 x.Claim.Seq, .int .i64 x.Claim.At, .bool x.Claim.Paid, .int .i64 x.Product, .int .i64 x.Amount]
theorem encApiPayout_len (x : ApiPayout) : (encApiPayout x).length = 7 := rfl
theorem encApiPayout_one (x : ApiPayout) : (encApiPayout x).all Value.oneCell' = true := rfl
structure ApiFee where
 Producer : Int
 Material : Int
 Amount : Int
deriving DecidableEq, Inhabited
def encApiFee (x : ApiFee) : List Value := [.int .i64 x.Producer, .int .i64 x.Material, .int .i64 x.Amount]
def valApiFee (x : ApiFee) : Value := .agg #[.int .i64 x.Producer, .int .i64 x.Material, .int .i64 x.Amount]
theorem encApiFee_len (x : ApiFee) : (encApiFee x).length = 3 := rfl
theorem encApiFee_one (x : ApiFee) : (encApiFee x).all Value.oneCell' = true := rfl
structure ApiItem where
 Kind : Int
 Ref : Int
 Count : Int
 Price : Int
 Amount : Int
deriving DecidableEq, Inhabited
def encApiItem (x : ApiItem) : List Value := [.int .i64 x.Kind, .int .i64 x.Ref, .int .i64 x.Count, .int .i64 x.Price, .int .i64 x.Amount]
def valApiItem (x : ApiItem) : Value := .agg #[.int .i64 x.Kind, .int .i64 x.Ref, .int .i64 x.Count, .int .i64 x.Price, .int .i64 x.Amount]
theorem encApiItem_len (x : ApiItem) : (encApiItem x).length = 5 := rfl
theorem encApiItem_one (x : ApiItem) : (encApiItem x).all Value.oneCell' = true := rfl
structure ApiBill where
 ID : Int
 Household : Int
 When : ApiWindow
 Items : (List ApiItem)
 Total : Int
deriving Inhabited
def encApiBill (x : ApiBill) (d1 : Hdr) : List Value := [.int .i64 x.ID, .int .i64 x.Household, .int .i64 x.When.From, .int .i64 x.When.To, .slice d1.1 d1.2.1 d1.2.2, .int .i64 x.Total]
structure ApiLine where
 Account : Int
 Amount : Int
deriving DecidableEq, Inhabited
def encApiLine (x : ApiLine) : List Value := [.int .i64 x.Account, .int .i64 x.Amount]
def valApiLine (x : ApiLine) : Value := .agg #[.int .i64 x.Account, .int .i64 x.Amount]
theorem encApiLine_len (x : ApiLine) : (encApiLine x).length = 2 := rfl
theorem encApiLine_one (x : ApiLine) : (encApiLine x).all Value.oneCell' = true := rfl
structure ApiPosting where
 ID : Int
 At : Int
 Lines : (List ApiLine)
deriving Inhabited
def encApiPosting (x : ApiPosting) (d1 : Hdr) : List Value := [.int .i64 x.ID, .int .i64 x.At, .slice d1.1 d1.2.1 d1.2.2]
structure ApiBooks where
 Now : Int
 Account : ApiAccount
 Transfers : (List ApiTransfer)
 Inside : Int
 Bins : Int
 Bales : (List ApiBale)
 Products : (List ApiProduct)
 Sales : (List ApiSale)
 Claims : (List ApiClaim)
 Paid : (List ApiPayout)
 Costs : (List Int)
 Fees : (List ApiFee)
 Bills : (List ApiBill)
 Postings : (List ApiPosting)
deriving Inhabited
structure ApiFinding where
 Kind : Int
 A : Int
 B : Int
deriving DecidableEq, Inhabited
def encApiFinding (x : ApiFinding) : List Value := [.int .i64 x.Kind, .int .i64 x.A, .int .i64 x.B]
def valApiFinding (x : ApiFinding) : Value := .agg #[.int .i64 x.Kind, .int .i64 x.A, .int .i64 x.B]
theorem encApiFinding_len (x : ApiFinding) : (encApiFinding x).length = 3 := rfl
theorem encApiFinding_one (x : ApiFinding) : (encApiFinding x).all Value.oneCell' = true := rfl
/-- audit.collector -/
def m_audit_collector (_N : Nat) (p0 : (List ApiFinding)) : Option ((List ApiFinding)) :=
 some (p0)
set_option maxRecDepth 20000 in
theorem m_audit_collector_ok (N : Nat) (w0 w : World) (F : List HE) (p0 : (List ApiFinding)) (b_p0 : Nat) (A_p0 : Option Addr) (n_p0 : Nat) (c_p0 : Nat)  (hw : Hs w0 ([blkE b_p0 41 [.slice A_p0 n_p0 c_p0], ownE 60 3 encApiFinding A_p0 n_p0 c_p0 p0] ++ [packE w0.heap.size F]) w) (r : (List ApiFinding)) (hr : m_audit_collector N p0 = some r) :
  Calls Tryd.prog 7 [.pointer (some ⟨b_p0, 0, none⟩)].toArray w fun x w1 => ∃ u, x = .returned ((fun (_r : (List ApiFinding)) (u : Nat) => (.func (.func 12) #[] #[.pointer (some ⟨u, 0, none⟩)] : Value)) r u) ∧ Hs w0 ((fun (r : (List ApiFinding)) (u : Nat) => [blkE u 50 [.pointer (some ⟨b_p0, 0, none⟩)], blkE b_p0 41 [.slice A_p0 n_p0 c_p0], ownE 60 3 encApiFinding A_p0 n_p0 c_p0 r]) r u ++ [packE w0.heap.size F]) w1 := by
 refine calls_cmH (n := 4) (R := fun r x w1 => ∃ u, x = .returned ((fun (_r : (List ApiFinding)) (u : Nat) => (.func (.func 12) #[] #[.pointer (some ⟨u, 0, none⟩)] : Value)) r u) ∧ Hs w0 ((fun (r : (List ApiFinding)) (u : Nat) => [blkE u 50 [.pointer (some ⟨b_p0, 0, none⟩)], blkE b_p0 41 [.slice A_p0 n_p0 c_p0], ownE 60 3 encApiFinding A_p0 n_p0 c_p0 r]) r u ++ [packE w0.heap.size F]) w1) Tryd.func7 rfl rfl (Nat.le_of_ble_eq_true rfl) ?_ hw r hr
 unfold m_audit_collector
 refine sr ?_
 refine lm_box 1 [.pointer (some ⟨_, _, _⟩)] (by kernel_rfl) rfl ?_
 intro b6
 refine la 1 ((2, .nilFunc) :: _) rfl ?_
 refine nn ?_
 refine sr ?_
 refine v_ 3 (fun _ _ => op_makeFuncC [.pointer (some ⟨_, _, _⟩)] rfl) ?_
 refine la 1 ((2, .func _ _ _) :: _) rfl ?_
 refine nn ?_
 refine cm_ret ?_
 exact xm_retT rfl (by kernel_rfl) (show _ = Value.func _ _ _ from rfl) fun w1 c1 => ⟨b6, rfl, hsub [0, 1, 2, 3] (by kernel_rfl) rfl w1 c1⟩
/-- audit.collector$1 -/
def m_audit_collector_1 (_N : Nat) (p0 : Int) (p1 : Int) (p2 : Int) (q0 : Unit) (q0p1 : (List ApiFinding)) : Option (Unit) :=
 ck ((List.length q0p1 + List.length ([(ApiFinding.mk p0 p1 p2)])) * 24 ≤ 140737488355328) (
  some (()))
set_option maxRecDepth 20000 in
theorem m_audit_collector_1_ok (N : Nat) (w0 w : World) (F : List HE) (p0 : Int) (p1 : Int) (p2 : Int) (q0 : Unit) (q0p1 : (List ApiFinding)) (b_q0 : Nat) (b_q0p1 : Nat) (A_q0p1 : Option Addr) (n_q0p1 : Nat) (c_q0p1 : Nat)  (hw : Hs w0 ([blkE b_q0 50 [.pointer (some ⟨b_q0p1, 0, none⟩)], blkE b_q0p1 41 [.slice A_q0p1 n_q0p1 c_q0p1], ownE 60 3 encApiFinding A_q0p1 n_q0p1 c_q0p1 q0p1] ++ [packE w0.heap.size F]) w) (r : Unit) (hr : m_audit_collector_1 N p0 p1 p2 q0 q0p1 = some r) :
  Calls Tryd.prog 12 [.int .i64 p0, .int .i64 p1, .int .i64 p2, .pointer (some ⟨b_q0, 0, none⟩)].toArray w fun x w1 => ∃ u, x = .returned ((fun (_r : Unit) (_u : (Option Addr) × Nat × Nat) => (.tuple #[] : Value)) r u) ∧ Hs w0 ((fun (_r : Unit) (u : (Option Addr) × Nat × Nat) => [blkE b_q0 50 [.pointer (some ⟨b_q0p1, 0, none⟩)], blkE b_q0p1 41 [.slice u.1 u.2.1 u.2.2], ownE 60 3 encApiFinding u.1 u.2.1 u.2.2 (q0p1 ++ ([(ApiFinding.mk p0 p1 p2)]))]) r u ++ [packE w0.heap.size F]) w1 := by
 refine calls_cmH (n := 18) (R := fun r x w1 => ∃ u, x = .returned ((fun (_r : Unit) (_u : (Option Addr) × Nat × Nat) => (.tuple #[] : Value)) r u) ∧ Hs w0 ((fun (_r : Unit) (u : (Option Addr) × Nat × Nat) => [blkE b_q0 50 [.pointer (some ⟨b_q0p1, 0, none⟩)], blkE b_q0p1 41 [.slice u.1 u.2.1 u.2.2], ownE 60 3 encApiFinding u.1 u.2.1 u.2.2 (q0p1 ++ ([(ApiFinding.mk p0 p1 p2)]))]) r u ++ [packE w0.heap.size F]) w1) Tryd.func12 rfl rfl (Nat.le_of_ble_eq_true rfl) ?_ hw r hr
 unfold m_audit_collector_1
 refine cm_ck (fun h81 => ?_)
 refine cm_of_then ?_
 refine cm_held (ξ := (Option Addr) × Nat × Nat) (fun u115 => []) (fun u115 => [blkE b_q0 50 [.pointer (some ⟨b_q0p1, 0, none⟩)], blkE b_q0p1 41 [.slice u115.1 u115.2.1 u115.2.2], ownE 60 3 encApiFinding u115.1 u115.2.1 u115.2.2 (q0p1 ++ ([(ApiFinding.mk p0 p1 p2)])), packE w0.heap.size F]) [blkE b_q0 50 [.pointer (some ⟨b_q0p1, 0, none⟩)], packE w0.heap.size F] 12 (by kernel_rfl) (by rfl) (hsub [0, 3] (by kernel_rfl) (by rfl)) ?_ ?_
 ·intro w117 c118
  refine wh_take 0 7 rfl (by kernel_rfl) (by kernel_rfl) (fun w2 c2 => (op_load rfl (by kernel_rfl) (c2.cell 0 (u := .pointer (some ⟨_, _, _⟩)) rfl rfl))) (hsub [0, 3] (by kernel_rfl) rfl _ c118) ?_
  refine wh_take 1 8 rfl (by kernel_rfl) (by kernel_rfl) (fun w2 c2 => (op_load rfl (by kernel_rfl) (c2.cell 0 (u := .pointer (some ⟨_, _, _⟩)) rfl rfl))) (hsub [0, 3] (by kernel_rfl) rfl _ c118) ?_
  refine wh_take 2 9 rfl (by kernel_rfl) (by kernel_rfl) (fun w2 c2 => (op_nilCheck rfl)) (hsub [0, 3] (by kernel_rfl) rfl _ c118) ?_
  refine wh_take 4 11 rfl (by kernel_rfl) (by kernel_rfl) (fun w2 c2 => (op_move (v := .int .i64 _) rfl)) (hsub [0, 3] (by kernel_rfl) rfl _ c118) ?_
  refine wh_take 5 12 rfl (by kernel_rfl) (by kernel_rfl) (fun w2 c2 => (op_move (v := .int .i64 _) rfl)) (hsub [0, 3] (by kernel_rfl) rfl _ c118) ?_
  refine wh_take 6 13 rfl (by kernel_rfl) (by kernel_rfl) (fun w2 c2 => (op_move (v := .int .i64 _) rfl)) (hsub [0, 3] (by kernel_rfl) rfl _ c118) ?_
  refine wh_take 7 14 rfl (by kernel_rfl) (by kernel_rfl) (fun w2 c2 => (op_build (z := [.int .i64 0, .int .i64 0, .int .i64 0]) (tab := [(0, 1), (1, 1), (2, 1)]) (cs := [.int .i64 _, .int .i64 _, .int .i64 _]) [(0, [.int .i64 _]), (1, [.int .i64 _]), (2, [.int .i64 _])] (by kernel_rfl) (by kernel_rfl) (fillOk_cons rfl rfl rfl (fillOk_cons rfl rfl rfl (fillOk_cons rfl rfl rfl fillOk_nil))) rfl)) (hsub [0, 3] (by kernel_rfl) rfl _ c118) ?_
  refine wh_ready [3, 8] (by kernel_rfl) rfl ⟨?_, ?_, trivial⟩
  ·refine ws_run 10 rfl (by kernel_rfl) (op_load rfl (by kernel_rfl) (c118.cell 1 (u := .slice _ _ _) rfl rfl)) (hsub [0, 3] (by kernel_rfl) rfl _ c118) ?_
   refine wh_ready [8] (by kernel_rfl) rfl ⟨?_, trivial⟩
   refine ws_sliceN 15 (el := 60) (sz := 3) (bytes := 24) (enc := encApiFinding) [(ApiFinding.mk p0 p1 p2)] rfl (by kernel_rfl) (by kernel_rfl) encApiFinding_len rfl ⟨rfl, rfl, trivial⟩ (by kernel_rfl) (by kernel_rfl) c118 ?_
   intro A119 n120 k121 w122 c123
   refine ⟨(hsub [1, 4] (by kernel_rfl) rfl _ c123), ?_⟩
   refine wh_strong (Hs w0 [ownE 60 3 encApiFinding A119 n120 k121 ([(ApiFinding.mk p0 p1 p2)]), blkE b_q0 50 [.pointer (some ⟨b_q0p1, 0, none⟩)], packE w0.heap.size F]) (fun w2 c2 => hsub [1, 2] (by kernel_rfl) rfl w2 c2) ?_
   refine wh_ready [9] (by kernel_rfl) rfl ⟨?_, trivial⟩
   refine ws_append 16 3 (el := 60) (sz := 3) (bytes := 24) (enc := encApiFinding) (l2 := ([(ApiFinding.mk p0 p1 p2)])) rfl (by kernel_rfl) (by kernel_rfl) encApiFinding_len encApiFinding_one rfl rfl rfl (c123.ownZ 0 rfl) (c123.own 0 rfl encApiFinding_len) h81 (by kernel_rfl) c123 ?_
   intro A125 n126 k127 w128 c129
   refine ⟨(hsub [0, 1, 4] (by kernel_rfl) rfl _ c129), ?_⟩
   refine wh_take 10 17 rfl (by kernel_rfl) (by kernel_rfl) (fun w2 c2 => (op_nilCheck rfl)) (hsub [0, 1, 4] (by kernel_rfl) rfl _ c129) ?_
   refine wh_ready [11] (by kernel_rfl) rfl ⟨?_, trivial⟩
   refine ws_store1 2 (v := .slice _ _ _) rfl (by kernel_rfl) rfl rfl (by kernel_rfl) rfl rfl (by kernel_rfl) (H' := [_, _, blkE _ _ [_], _, _]) rfl c129 ?_
   intro w130 c131
   refine ⟨(hsub [0, 1, 4] (by kernel_rfl) rfl _ c131), ?_⟩
   exact wh_done (A125, n126, k127) (by kernel_rfl) sub_nil (hsub [1, 2, 3, 4] (by kernel_rfl) rfl _ c131)
  ·refine ws_sliceN 15 (el := 60) (sz := 3) (bytes := 24) (enc := encApiFinding) [(ApiFinding.mk p0 p1 p2)] rfl (by kernel_rfl) (by kernel_rfl) encApiFinding_len rfl ⟨rfl, rfl, trivial⟩ (by kernel_rfl) (by kernel_rfl) c118 ?_
   intro A132 n133 k134 w135 c136
   refine ⟨(hsub [1, 4] (by kernel_rfl) rfl _ c136), ?_⟩
   refine wh_strong (Hs w0 [ownE 60 3 encApiFinding A132 n133 k134 ([(ApiFinding.mk p0 p1 p2)]), blkE b_q0 50 [.pointer (some ⟨b_q0p1, 0, none⟩)], packE w0.heap.size F]) (fun w2 c2 => hsub [1, 2] (by kernel_rfl) rfl w2 c2) ?_
   refine wh_ready [3] (by kernel_rfl) rfl ⟨?_, trivial⟩
   refine ws_run 10 rfl (by kernel_rfl) (op_load rfl (by kernel_rfl) (c136.cell 2 (u := .slice _ _ _) rfl rfl)) (hsub [0, 1, 4] (by kernel_rfl) rfl _ c136) ?_
   refine wh_ready [9] (by kernel_rfl) rfl ⟨?_, trivial⟩
   refine ws_append 16 3 (el := 60) (sz := 3) (bytes := 24) (enc := encApiFinding) (l2 := ([(ApiFinding.mk p0 p1 p2)])) rfl (by kernel_rfl) (by kernel_rfl) encApiFinding_len encApiFinding_one rfl rfl rfl (c136.ownZ 0 rfl) (c136.own 0 rfl encApiFinding_len) h81 (by kernel_rfl) c136 ?_
   intro A138 n139 k140 w141 c142
   refine ⟨(hsub [0, 1, 4] (by kernel_rfl) rfl _ c142), ?_⟩
   refine wh_take 10 17 rfl (by kernel_rfl) (by kernel_rfl) (fun w2 c2 => (op_nilCheck rfl)) (hsub [0, 1, 4] (by kernel_rfl) rfl _ c142) ?_
   refine wh_ready [11] (by kernel_rfl) rfl ⟨?_, trivial⟩
   refine ws_store1 2 (v := .slice _ _ _) rfl (by kernel_rfl) rfl rfl (by kernel_rfl) rfl rfl (by kernel_rfl) (H' := [_, _, blkE _ _ [_], _, _]) rfl c142 ?_
   intro w143 c144
   refine ⟨(hsub [0, 1, 4] (by kernel_rfl) rfl _ c144), ?_⟩
   exact wh_done (A138, n139, k140) (by kernel_rfl) sub_nil (hsub [1, 2, 3, 4] (by kernel_rfl) rfl _ c144)
 intro u115
 refine xm_of_then ?_
 refine xm_normR ?_
 exact xm_ret rfl  fun w1 c1 => ⟨(u115.1, u115.2.1, u115.2.2), rfl, hsub [0, 1, 2, 3] (by kernel_rfl) rfl w1 c1⟩
/-- audit.Fees -/
def m_audit_Fees (N : Nat) (p0 : ApiBooks) : Option ((List ApiFinding) × Int) :=
 (if ((decide (16 < (List.length p0.Costs : Int))) || (decide (512 < (List.length p0.Fees : Int)))) = true then
  some ((([] : List ApiFinding), (8 : Int)))
 else
  Option.bind (m_audit_collector N ([] : List ApiFinding)) fun r9 => (andThen
   (loopM (fun (s1273 : (List ApiFinding) × Int) =>
    (if s1273.2 < (List.length p0.Costs : Int) then
     (andThen
      (ck ((0 : Int) ≤ s1273.2 ∧ s1273.2 < (List.length p0.Costs : Int)) (
       (andThen
        (loopM (fun (s1500 : Int × Bool × Int) =>
         (if s1500.2.2 < (List.length p0.Fees : Int) then
          (andThen
           (ck ((0 : Int) ≤ s1500.2.2 ∧ s1500.2.2 < (List.length p0.Fees : Int)) (
            (if (ix p0.Fees s1500.2.2).Material ≠ s1273.2 then
             some (.next (s1500.1, s1500.2.1))
            else
             (if ((s1500.2.1 && (decide (0 ≤ (ix p0.Fees s1500.2.2).Amount))) && (decide ((ix p0.Fees s1500.2.2).Amount ≤ 1000000000000))) = true then
              ck (I64 (s1500.1 + ((ix p0.Fees s1500.2.2).Amount))) (
               some (.next ((s1500.1 + ((ix p0.Fees s1500.2.2).Amount)), ((s1500.2.1 && (decide (0 ≤ (ix p0.Fees s1500.2.2).Amount))) && (decide ((ix p0.Fees s1500.2.2).Amount ≤ 1000000000000))))))
             else
              some (.next (s1500.1, ((s1500.2.1 && (decide (0 ≤ (ix p0.Fees s1500.2.2).Amount))) && (decide ((ix p0.Fees s1500.2.2).Amount ≤ 1000000000000)))))))))
          fun (s1510 : Int × Bool) =>
           ck (I64 (s1500.2.2 + (1 : Int))) (
            some (.next (s1510.1, s1510.2, (s1500.2.2 + (1 : Int))))))
         else
          some (.done (.next (s1500.1, s1500.2.1))))) N ((0 : Int), true, (0 : Int)))
       fun (s1460 : Int × Bool) =>
        (if ((!s1460.2) || (decide (s1460.1 ≠ (ix p0.Costs s1273.2)))) = true then
         Option.bind (m_audit_collector_1 N (9 : Int) s1273.2 (0 : Int) () s1273.1) fun r1522 => some (.next (s1273.1 ++ ([(ApiFinding.mk (9 : Int) s1273.2 (0 : Int))])))
        else
         some (.next s1273.1)))))
     fun (s1399 : (List ApiFinding)) =>
      ck (I64 (s1273.2 + (1 : Int))) (
       some (.next (s1399, (s1273.2 + (1 : Int))))))
    else
     some (.done (.next s1273.1)))) N (r9, (0 : Int)))
  fun (s767 : (List ApiFinding)) =>
   (andThen
    (loopM (fun (s1617 : (List ApiFinding) × Int) =>
     (if s1617.2 < (List.length p0.Fees : Int) then
      (andThen
       (ck ((0 : Int) ≤ s1617.2 ∧ s1617.2 < (List.length p0.Fees : Int)) (
        (if ((decide ((ix p0.Fees s1617.2).Material < 0)) || (decide ((List.length p0.Costs : Int) ≤ (ix p0.Fees s1617.2).Material))) = true then
         Option.bind (m_audit_collector_1 N (9 : Int) ((ix p0.Fees s1617.2).Material) (0 : Int) () s1617.1) fun r1632 => some (.next (s1617.1 ++ ([(ApiFinding.mk (9 : Int) ((ix p0.Fees s1617.2).Material) (0 : Int))])))
        else
         some (.next s1617.1))))
      fun (s1626 : (List ApiFinding)) =>
       ck (I64 (s1617.2 + (1 : Int))) (
        some (.next (s1626, (s1617.2 + (1 : Int))))))
     else
      some (.done (.next s1617.1)))) N (s767, (0 : Int)))
   fun (s1579 : (List ApiFinding)) =>
    some ((s1579, (0 : Int))))))
set_option maxHeartbeats 2000000 in
set_option maxRecDepth 20000 in
theorem m_audit_Fees_ok (N : Nat) (w0 : World) (p0 : ApiBooks) (A_p01 : Option Addr) (n_p01 : Nat) (c_p01 : Nat) (A_p02 : Option Addr) (n_p02 : Nat) (c_p02 : Nat) (A_p03 : Option Addr) (n_p03 : Nat) (c_p03 : Nat) (A_p04 : Option Addr) (n_p04 : Nat) (c_p04 : Nat) (A_p05 : Option Addr) (n_p05 : Nat) (c_p05 : Nat) (A_p06 : Option Addr) (n_p06 : Nat) (c_p06 : Nat) (A_p07 : Option Addr) (n_p07 : Nat) (c_p07 : Nat) (d1_p07 : Int → Hdr) (A_p08 : Option Addr) (n_p08 : Nat) (c_p08 : Nat) (A_p09 : Option Addr) (n_p09 : Nat) (c_p09 : Nat) (A_p010 : Option Addr) (n_p010 : Nat) (c_p010 : Nat) (A_p011 : Option Addr) (n_p011 : Nat) (c_p011 : Nat) (A_p012 : Option Addr) (n_p012 : Nat) (c_p012 : Nat) (A_p013 : Option Addr) (n_p013 : Nat) (c_p013 : Nat) (A_p014 : Option Addr) (n_p014 : Nat) (c_p014 : Nat) (d1_p014 : Int → Hdr) (A_p015 : Option Addr) (n_p015 : Nat) (c_p015 : Nat) (d1_p015 : Int → Hdr) (_hr_p01 : RdE w0 2 encApiHousehold A_p01 p0.Account.Households) (_hz_p01 : SW A_p01 n_p01 c_p01 (List.length p0.Account.Households)) (_hr_p02 : RdE w0 5 encApiContainer A_p02 p0.Account.Containers) (_hz_p02 : SW A_p02 n_p02 c_p02 (List.length p0.Account.Containers)) (_hr_p03 : RdE w0 4 encApiAssign A_p03 p0.Account.Assigns) (_hz_p03 : SW A_p03 n_p03 c_p03 (List.length p0.Account.Assigns)) (_hr_p04 : RdE w0 7 encApiEmptying A_p04 p0.Account.Emptyings) (_hz_p04 : SW A_p04 n_p04 c_p04 (List.length p0.Account.Emptyings)) (_hr_p05 : RdE w0 5 encApiTariff A_p05 p0.Account.Tariffs) (_hz_p05 : SW A_p05 n_p05 c_p05 (List.length p0.Account.Tariffs)) (_hr_p06 : RdE w0 4 encApiTransfer A_p06 p0.Transfers) (_hz_p06 : SW A_p06 n_p06 c_p06 (List.length p0.Transfers)) (_hr_p07 : RdI w0 4 (fun (i : Int) (x : ApiBale) => encApiBale x (d1_p07 i)) A_p07 p0.Bales) (_hz_p07 : SW A_p07 n_p07 c_p07 (List.length p0.Bales)) (_hN1_p07 : ∀ i : Int, 0 ≤ i ∧ i < (List.length p0.Bales : Int) → RdE w0 1 encI (d1_p07 i).1 (ix p0.Bales i).Mix ∧ SW (d1_p07 i).1 (d1_p07 i).2.1 (d1_p07 i).2.2 (List.length (ix p0.Bales i).Mix)) (_hr_p08 : RdE w0 5 encApiProduct A_p08 p0.Products) (_hz_p08 : SW A_p08 n_p08 c_p08 (List.length p0.Products)) (_hr_p09 : RdE w0 5 encApiSale A_p09 p0.Sales) (_hz_p09 : SW A_p09 n_p09 c_p09 (List.length p0.Sales)) (_hr_p010 : RdE w0 5 encApiClaim A_p010 p0.Claims) (_hz_p010 : SW A_p010 n_p010 c_p010 (List.length p0.Claims)) (_hr_p011 : RdE w0 7 encApiPayout A_p011 p0.Paid) (_hz_p011 : SW A_p011 n_p011 c_p011 (List.length p0.Paid)) (hr_p012 : RdE w0 1 encI A_p012 p0.Costs) (hz_p012 : SW A_p012 n_p012 c_p012 (List.length p0.Costs)) (hr_p013 : RdE w0 3 encApiFee A_p013 p0.Fees) (hz_p013 : SW A_p013 n_p013 c_p013 (List.length p0.Fees)) (_hr_p014 : RdI w0 6 (fun (i : Int) (x : ApiBill) => encApiBill x (d1_p014 i)) A_p014 p0.Bills) (_hz_p014 : SW A_p014 n_p014 c_p014 (List.length p0.Bills)) (_hN1_p014 : ∀ i : Int, 0 ≤ i ∧ i < (List.length p0.Bills : Int) → RdE w0 5 encApiItem (d1_p014 i).1 (ix p0.Bills i).Items ∧ SW (d1_p014 i).1 (d1_p014 i).2.1 (d1_p014 i).2.2 (List.length (ix p0.Bills i).Items)) (_hr_p015 : RdI w0 3 (fun (i : Int) (x : ApiPosting) => encApiPosting x (d1_p015 i)) A_p015 p0.Postings) (_hz_p015 : SW A_p015 n_p015 c_p015 (List.length p0.Postings)) (_hN1_p015 : ∀ i : Int, 0 ≤ i ∧ i < (List.length p0.Postings : Int) → RdE w0 2 encApiLine (d1_p015 i).1 (ix p0.Postings i).Lines ∧ SW (d1_p015 i).1 (d1_p015 i).2.1 (d1_p015 i).2.2 (List.length (ix p0.Postings i).Lines)) (r : (List ApiFinding) × Int) (hr : m_audit_Fees N p0 = some r) :
  Ret Tryd.prog 4 [.agg #[.int .i64 p0.Now, .slice A_p01 n_p01 c_p01, .slice A_p02 n_p02 c_p02, .slice A_p03 n_p03 c_p03, .slice A_p04 n_p04 c_p04, .slice A_p05 n_p05 c_p05, .int .i64 p0.Account.Gap, .slice A_p06 n_p06 c_p06, .int .i64 p0.Inside, .int .i64 p0.Bins, .slice A_p07 n_p07 c_p07, .slice A_p08 n_p08 c_p08, .slice A_p09 n_p09 c_p09, .slice A_p010 n_p010 c_p010, .slice A_p011 n_p011 c_p011, .slice A_p012 n_p012 c_p012, .slice A_p013 n_p013 c_p013, .slice A_p014 n_p014 c_p014, .slice A_p015 n_p015 c_p015]] w0 (fun (r : (List ApiFinding) × Int) (u : (Option Addr) × Nat × Nat) => .tuple #[.slice u.1 u.2.1 u.2.2, .int .i64 r.2]) (fun (r : (List ApiFinding) × Int) (u : (Option Addr) × Nat × Nat) => [ownE 60 3 encApiFinding u.1 u.2.1 u.2.2 r.1]) r := by
 refine calls_v (n := 96) r hr Tryd.func4 ?_
 unfold m_audit_Fees
 refine sr ?_
 refine lm_box 1 [.int .i64 _, .slice _ _ _, .slice _ _ _, .slice _ _ _, .slice _ _ _, .slice _ _ _, .int .i64 _, .slice _ _ _, .int .i64 _, .int .i64 _, .slice _ _ _, .slice _ _ _, .slice _ _ _, .slice _ _ _, .slice _ _ _, .slice _ _ _, .slice _ _ _, .slice _ _ _, .slice _ _ _] (by kernel_rfl) rfl ?_
 intro b5
 refine la 2 ((3, .int .i64 _) :: (2, .slice _ _ _) :: _) rfl ?_
 refine nn ?_
 refine cm_seq ?_
 refine cm_seq ?_
 refine cm_cutE [(23, .bool ((decide (16 < (List.length p0.Costs : Int))) || (decide (512 < (List.length p0.Fees : Int)))))] ?_ ?_
 ·refine q_ 14 (fun _ _ => oF 15 15 rfl) ?_
  refine q_ 15 (fun _ c1 => oL (c1.cell 0 (u := .slice _ _ _) rfl rfl)) ?_
  refine q_ 16 (fun _ _ => op_lenN rfl (by kernel_rfl) hz_p012.2.2) ?_
  refine qd 17 (fun _ _ => op_gtr rfl rfl) (fun h6 => ?_) (fun h6 => ?_)
  ·refine qa 6 ((23, .bool true) :: (22, undef) :: (21, undef) :: (20, undef) :: (19, undef) :: (18, .bool true) :: _) rfl ?_
   exact leaf_q (sub_out 10 _ rfl (by kernel_rfl) ⟨(congrArg Value.bool (by rw [decide_eq_true h6] <;> rfl)), trivial⟩)
  ·refine qa 1 ((18, .bool false) :: _) rfl ?_
   refine q_ 19 (fun _ _ => oF 16 16 rfl) ?_
   refine q_ 20 (fun _ c1 => oL (c1.cell 0 (u := .slice _ _ _) rfl rfl)) ?_
   refine q_ 21 (fun _ _ => op_lenN rfl (by kernel_rfl) hz_p013.2.2) ?_
   refine qa 2 ((23, .bool _) :: (22, .bool _) :: _) rfl ?_
   exact leaf_q (sub_out 10 _ rfl (by kernel_rfl) ⟨(congrArg Value.bool (by rw [decide_eq_false h6] <;> rfl)), trivial⟩)
 refine xm_next ?_
 refine cm_condB (by kernel_rfl) rfl (fun h7 => ?_) (fun h7 => ?_)
 ·refine sr ?_
  refine la 2 ((3, .int .i64 _) :: (2, .slice _ _ _) :: _) rfl ?_
  refine nn ?_
  refine cm_ret ?_
  refine xm_thenR ?_
  refine xm_nilrow 60 3 encApiFinding ?_
  exact xm_retTT rfl (by kernel_rfl) (show _ = Value.slice _ _ _ from rfl) (by kernel_rfl) (show _ = Value.int .i64 _ from rfl) fun w1 c1 => ⟨(none, 0, 0), rfl, hsub [0] (by kernel_rfl) rfl w1 c1⟩
 ·refine sk ?_
  refine sr ?_
  refine lm_alloc 4 [.slice none 0 0] (v := .slice none 0 0) (by kernel_rfl) (by kernel_rfl) rfl ?_
  intro b8
  refine nn ?_
  refine sr ?_
  refine lm_nilrow 60 3 encApiFinding ?_
  refine lm_callH 24 (V := (fun (_r : (List ApiFinding)) (u : Nat) => (.func (.func 12) #[] #[.pointer (some ⟨u, 0, none⟩)] : Value))) [blkE b8 41 [.slice none 0 0], ownE 60 3 encApiFinding none 0 0 ([] : List ApiFinding)] [blkE b5 40 [.int .i64 p0.Now, .slice A_p01 n_p01 c_p01, .slice A_p02 n_p02 c_p02, .slice A_p03 n_p03 c_p03, .slice A_p04 n_p04 c_p04, .slice A_p05 n_p05 c_p05, .int .i64 p0.Account.Gap, .slice A_p06 n_p06 c_p06, .int .i64 p0.Inside, .int .i64 p0.Bins, .slice A_p07 n_p07 c_p07, .slice A_p08 n_p08 c_p08, .slice A_p09 n_p09 c_p09, .slice A_p010 n_p010 c_p010, .slice A_p011 n_p011 c_p011, .slice A_p012 n_p012 c_p012, .slice A_p013 n_p013 c_p013, .slice A_p014 n_p014 c_p014, .slice A_p015 n_p015 c_p015]] (O := (fun (r : (List ApiFinding)) (u : Nat) => [blkE u 50 [.pointer (some ⟨b8, 0, none⟩)], blkE b8 41 [.slice none 0 0], ownE 60 3 encApiFinding none 0 0 r])) (sh [1, 0, 2]) (by kernel_rfl) (fun w1 => op_call (by kernel_rfl)) (fun r1 hr1 w1 c1 => m_audit_collector_ok N w0 w1 [blkE b5 40 [.int .i64 p0.Now, .slice A_p01 n_p01 c_p01, .slice A_p02 n_p02 c_p02, .slice A_p03 n_p03 c_p03, .slice A_p04 n_p04 c_p04, .slice A_p05 n_p05 c_p05, .int .i64 p0.Account.Gap, .slice A_p06 n_p06 c_p06, .int .i64 p0.Inside, .int .i64 p0.Bins, .slice A_p07 n_p07 c_p07, .slice A_p08 n_p08 c_p08, .slice A_p09 n_p09 c_p09, .slice A_p010 n_p010 c_p010, .slice A_p011 n_p011 c_p011, .slice A_p012 n_p012 c_p012, .slice A_p013 n_p013 c_p013, .slice A_p014 n_p014 c_p014, .slice A_p015 n_p015 c_p015]] ([] : List ApiFinding) b8 none 0 0  c1 r1 hr1) ?_
  intro r9 u10
  refine la 1 ((5, .func _ _ _) :: _) rfl ?_
  refine nn ?_
  refine cm_join (σ := (List ApiFinding)) (ξ := (Option Addr) × Nat × Nat) (fun s767 u768 => [(1, .pointer (some ⟨b5, 0, none⟩)), (4, .pointer (some ⟨b8, 0, none⟩)), (5, .func (.func 12) #[] #[.pointer (some ⟨u10, 0, none⟩)])]) (fun s767 u768 => [blkE b5 40 [.int .i64 p0.Now, .slice A_p01 n_p01 c_p01, .slice A_p02 n_p02 c_p02, .slice A_p03 n_p03 c_p03, .slice A_p04 n_p04 c_p04, .slice A_p05 n_p05 c_p05, .int .i64 p0.Account.Gap, .slice A_p06 n_p06 c_p06, .int .i64 p0.Inside, .int .i64 p0.Bins, .slice A_p07 n_p07 c_p07, .slice A_p08 n_p08 c_p08, .slice A_p09 n_p09 c_p09, .slice A_p010 n_p010 c_p010, .slice A_p011 n_p011 c_p011, .slice A_p012 n_p012 c_p012, .slice A_p013 n_p013 c_p013, .slice A_p014 n_p014 c_p014, .slice A_p015 n_p015 c_p015], blkE b8 41 [.slice u768.1 u768.2.1 u768.2.2], ownE 60 3 encApiFinding u768.1 u768.2.1 u768.2.2 s767, blkE u10 50 [.pointer (some ⟨b8, 0, none⟩)]]) ?_ ?_
  ·refine sr ?_
   refine v_ 25 (fun _ _ => oF 15 15 rfl) ?_
   refine v_ 26 (fun _ c1 => oL (c1.cell 3 (u := .slice _ _ _) rfl rfl)) ?_
   refine v_ 27 (fun _ _ => op_lenN rfl (by kernel_rfl) hz_p012.2.2) ?_
   refine la 1 ((28, .int .i64 _) :: _) rfl ?_
   refine nn ?_
   refine cm_block ?_
   refine cm_loop (σ := (List ApiFinding) × Int) (ξ := (Option Addr) × Nat × Nat) (fun s1273 u1274 => [(1, .pointer (some ⟨b5, 0, none⟩)), (4, .pointer (some ⟨b8, 0, none⟩)), (5, .func (.func 12) #[] #[.pointer (some ⟨u10, 0, none⟩)]), (26, .slice A_p012 n_p012 c_p012), (27, .int .i64 (List.length p0.Costs : Int)), (28, .int .i64 s1273.2)]) (fun s1273 u1274 => [blkE b5 40 [.int .i64 p0.Now, .slice A_p01 n_p01 c_p01, .slice A_p02 n_p02 c_p02, .slice A_p03 n_p03 c_p03, .slice A_p04 n_p04 c_p04, .slice A_p05 n_p05 c_p05, .int .i64 p0.Account.Gap, .slice A_p06 n_p06 c_p06, .int .i64 p0.Inside, .int .i64 p0.Bins, .slice A_p07 n_p07 c_p07, .slice A_p08 n_p08 c_p08, .slice A_p09 n_p09 c_p09, .slice A_p010 n_p010 c_p010, .slice A_p011 n_p011 c_p011, .slice A_p012 n_p012 c_p012, .slice A_p013 n_p013 c_p013, .slice A_p014 n_p014 c_p014, .slice A_p015 n_p015 c_p015], blkE b8 41 [.slice u1274.1 u1274.2.1 u1274.2.2], ownE 60 3 encApiFinding u1274.1 u1274.2.1 u1274.2.2 s1273.1, blkE u10 50 [.pointer (some ⟨b8, 0, none⟩)]]) (none, 0, 0) ?_ ?_ ?_
   ·exact sq
   ·exact sh [3, 1, 2, 0]
   intro s1273 u1274
   refine sr ?_
   refine la 1 ((29, .bool _) :: _) rfl ?_
   refine nn ?_
   refine cm_seq ?_
   refine cm_cond (by kernel_rfl) rfl (fun h1275 => ?_) (fun h1275 => ?_)
   ·refine sk ?_
    refine cm_join (σ := (List ApiFinding)) (ξ := (Option Addr) × Nat × Nat) (fun s1399 u1400 => [(1, .pointer (some ⟨b5, 0, none⟩)), (4, .pointer (some ⟨b8, 0, none⟩)), (5, .func (.func 12) #[] #[.pointer (some ⟨u10, 0, none⟩)]), (26, .slice A_p012 n_p012 c_p012), (27, .int .i64 (List.length p0.Costs : Int)), (28, .int .i64 s1273.2)]) (fun s1399 u1400 => [blkE b5 40 [.int .i64 p0.Now, .slice A_p01 n_p01 c_p01, .slice A_p02 n_p02 c_p02, .slice A_p03 n_p03 c_p03, .slice A_p04 n_p04 c_p04, .slice A_p05 n_p05 c_p05, .int .i64 p0.Account.Gap, .slice A_p06 n_p06 c_p06, .int .i64 p0.Inside, .int .i64 p0.Bins, .slice A_p07 n_p07 c_p07, .slice A_p08 n_p08 c_p08, .slice A_p09 n_p09 c_p09, .slice A_p010 n_p010 c_p010, .slice A_p011 n_p011 c_p011, .slice A_p012 n_p012 c_p012, .slice A_p013 n_p013 c_p013, .slice A_p014 n_p014 c_p014, .slice A_p015 n_p015 c_p015], blkE b8 41 [.slice u1400.1 u1400.2.1 u1400.2.2], ownE 60 3 encApiFinding u1400.1 u1400.2.1 u1400.2.2 s1399, blkE u10 50 [.pointer (some ⟨b8, 0, none⟩)]]) ?_ ?_
    ·refine cm_block ?_
     refine sr ?_
     refine la 1 ((30, .int .i64 _) :: _) rfl ?_
     refine lm_ck (fun h1401 => ?_)
     refine v_ 31 (fun _ c1 => oI 1 rfl rfl ((hr_p012.old c1).addr h1401.1 h1401.2) hz_p012.2.2 h1401) ?_
     refine v_ 32 (fun _ c1 => oL (v := .int .i64 (ix p0.Costs s1273.2)) ((hr_p012.old c1).cell0 h1401.1 h1401.2 rfl)) ?_
     refine la 2 ((7, .int .i64 _) :: (6, .int .i64 _) :: _) rfl ?_
     refine nn ?_
     refine sr ?_
     refine la 2 ((9, .bool true) :: (8, .int .i64 _) :: _) rfl ?_
     refine nn ?_
     refine cm_join (σ := Int × Bool) (ξ := Unit) (fun s1460 u1461 => [(1, .pointer (some ⟨b5, 0, none⟩)), (4, .pointer (some ⟨b8, 0, none⟩)), (5, .func (.func 12) #[] #[.pointer (some ⟨u10, 0, none⟩)]), (6, .int .i64 s1273.2), (7, .int .i64 (ix p0.Costs s1273.2)), (8, .int .i64 s1460.1), (9, .bool s1460.2), (26, .slice A_p012 n_p012 c_p012), (27, .int .i64 (List.length p0.Costs : Int)), (28, .int .i64 s1273.2)]) (fun s1460 u1461 => [blkE b5 40 [.int .i64 p0.Now, .slice A_p01 n_p01 c_p01, .slice A_p02 n_p02 c_p02, .slice A_p03 n_p03 c_p03, .slice A_p04 n_p04 c_p04, .slice A_p05 n_p05 c_p05, .int .i64 p0.Account.Gap, .slice A_p06 n_p06 c_p06, .int .i64 p0.Inside, .int .i64 p0.Bins, .slice A_p07 n_p07 c_p07, .slice A_p08 n_p08 c_p08, .slice A_p09 n_p09 c_p09, .slice A_p010 n_p010 c_p010, .slice A_p011 n_p011 c_p011, .slice A_p012 n_p012 c_p012, .slice A_p013 n_p013 c_p013, .slice A_p014 n_p014 c_p014, .slice A_p015 n_p015 c_p015], blkE b8 41 [.slice u1274.1 u1274.2.1 u1274.2.2], ownE 60 3 encApiFinding u1274.1 u1274.2.1 u1274.2.2 s1273.1, blkE u10 50 [.pointer (some ⟨b8, 0, none⟩)]]) ?_ ?_
     ·refine sr ?_
      refine v_ 33 (fun _ _ => oF 16 16 rfl) ?_
      refine v_ 34 (fun _ c1 => oL (c1.cell 0 (u := .slice _ _ _) rfl rfl)) ?_
      refine v_ 35 (fun _ _ => op_lenN rfl (by kernel_rfl) hz_p013.2.2) ?_
      refine la 1 ((36, .int .i64 _) :: _) rfl ?_
      refine nn ?_
      refine cm_block ?_
      refine cm_loop (σ := Int × Bool × Int) (ξ := Unit) (fun s1500 u1501 => [(1, .pointer (some ⟨b5, 0, none⟩)), (4, .pointer (some ⟨b8, 0, none⟩)), (5, .func (.func 12) #[] #[.pointer (some ⟨u10, 0, none⟩)]), (6, .int .i64 s1273.2), (7, .int .i64 (ix p0.Costs s1273.2)), (8, .int .i64 s1500.1), (9, .bool s1500.2.1), (26, .slice A_p012 n_p012 c_p012), (27, .int .i64 (List.length p0.Costs : Int)), (28, .int .i64 s1273.2), (34, .slice A_p013 n_p013 c_p013), (35, .int .i64 (List.length p0.Fees : Int)), (36, .int .i64 s1500.2.2)]) (fun s1500 u1501 => [blkE b5 40 [.int .i64 p0.Now, .slice A_p01 n_p01 c_p01, .slice A_p02 n_p02 c_p02, .slice A_p03 n_p03 c_p03, .slice A_p04 n_p04 c_p04, .slice A_p05 n_p05 c_p05, .int .i64 p0.Account.Gap, .slice A_p06 n_p06 c_p06, .int .i64 p0.Inside, .int .i64 p0.Bins, .slice A_p07 n_p07 c_p07, .slice A_p08 n_p08 c_p08, .slice A_p09 n_p09 c_p09, .slice A_p010 n_p010 c_p010, .slice A_p011 n_p011 c_p011, .slice A_p012 n_p012 c_p012, .slice A_p013 n_p013 c_p013, .slice A_p014 n_p014 c_p014, .slice A_p015 n_p015 c_p015], blkE b8 41 [.slice u1274.1 u1274.2.1 u1274.2.2], ownE 60 3 encApiFinding u1274.1 u1274.2.1 u1274.2.2 s1273.1, blkE u10 50 [.pointer (some ⟨b8, 0, none⟩)]]) () ?_ ?_ ?_
      ·exact sq
      ·exact sh [0, 1, 2, 3]
      intro s1500 u1501
      refine sr ?_
      refine la 1 ((37, .bool _) :: _) rfl ?_
      refine nn ?_
      refine cm_seq ?_
      refine cm_cond (by kernel_rfl) rfl (fun h1502 => ?_) (fun h1502 => ?_)
      ·refine sk ?_
       refine cm_join (σ := Int × Bool) (ξ := Unit) (fun s1510 u1511 => [(1, .pointer (some ⟨b5, 0, none⟩)), (4, .pointer (some ⟨b8, 0, none⟩)), (5, .func (.func 12) #[] #[.pointer (some ⟨u10, 0, none⟩)]), (6, .int .i64 s1273.2), (7, .int .i64 (ix p0.Costs s1273.2)), (8, .int .i64 s1510.1), (9, .bool s1510.2), (26, .slice A_p012 n_p012 c_p012), (27, .int .i64 (List.length p0.Costs : Int)), (28, .int .i64 s1273.2), (34, .slice A_p013 n_p013 c_p013), (35, .int .i64 (List.length p0.Fees : Int)), (36, .int .i64 s1500.2.2)]) (fun s1510 u1511 => [blkE b5 40 [.int .i64 p0.Now, .slice A_p01 n_p01 c_p01, .slice A_p02 n_p02 c_p02, .slice A_p03 n_p03 c_p03, .slice A_p04 n_p04 c_p04, .slice A_p05 n_p05 c_p05, .int .i64 p0.Account.Gap, .slice A_p06 n_p06 c_p06, .int .i64 p0.Inside, .int .i64 p0.Bins, .slice A_p07 n_p07 c_p07, .slice A_p08 n_p08 c_p08, .slice A_p09 n_p09 c_p09, .slice A_p010 n_p010 c_p010, .slice A_p011 n_p011 c_p011, .slice A_p012 n_p012 c_p012, .slice A_p013 n_p013 c_p013, .slice A_p014 n_p014 c_p014, .slice A_p015 n_p015 c_p015], blkE b8 41 [.slice u1274.1 u1274.2.1 u1274.2.2], ownE 60 3 encApiFinding u1274.1 u1274.2.1 u1274.2.2 s1273.1, blkE u10 50 [.pointer (some ⟨b8, 0, none⟩)]]) ?_ ?_
       ·refine cm_block ?_
        refine sr ?_
        refine lm_ck (fun h1512 => ?_)
        refine v_ 38 (fun _ c1 => oI 3 rfl rfl ((hr_p013.old c1).addr h1512.1 h1512.2) hz_p013.2.2 h1512) ?_
        refine v_ 39 (fun _ c1 => oR [.int .i64 ((ix p0.Fees s1500.2.2).Producer), .int .i64 ((ix p0.Fees s1500.2.2).Material), .int .i64 ((ix p0.Fees s1500.2.2).Amount)] ((hr_p013.old c1).row h1512.1 h1512.2)) ?_
        refine lm_alloc 11 [.int .i64 0, .int .i64 0, .int .i64 0] (v := .agg #[.int .i64 0, .int .i64 0, .int .i64 0]) (by kernel_rfl) (by kernel_rfl) rfl ?_
        intro b1513
        refine lm_storeA 0 [.int .i64 _, .int .i64 _, .int .i64 _] [_, _, _] (H' := [blkE _ _ [_, _, _], _, _, _, _]) (by kernel_rfl) rfl rfl (by kernel_rfl) rfl rfl (by kernel_rfl) rfl rfl ?_
        refine nn ?_
        refine cm_seq ?_
        refine sr ?_
        refine v_ 40 (fun _ _ => oF 1 1 rfl) ?_
        refine v_ 41 (fun _ c1 => oL (c1.cell 0 (u := .int .i64 _) rfl rfl)) ?_
        refine la 2 ((43, .bool _) :: (42, .int .i64 _) :: _) rfl ?_
        refine nn ?_
        refine cm_cond (by kernel_rfl) rfl (fun h1514 => ?_) (fun h1514 => ?_)
        ·refine cm_exit ?_
         refine xm_thenE ?_
         refine xm_here ?_
         exact xm_lnext () sq (sh [1, 2, 3, 4])
        ·refine sk ?_
         refine cm_seq ?_
         refine cm_cutE [(9, .bool ((s1500.2.1 && (decide (0 ≤ (ix p0.Fees s1500.2.2).Amount))) && (decide ((ix p0.Fees s1500.2.2).Amount ≤ 1000000000000))))] ?_ ?_
         ·refine wq_bool 44 (by kernel_rfl) (fun w1 c1 => (op_move (v := .bool _) rfl)) (fun h1515 => ?_) (fun h1515 => ?_)
          ·refine qa 1 ((45, .bool true) :: _) rfl ?_
           refine q_ 46 (fun _ _ => oF 2 2 rfl) ?_
           refine q_ 47 (fun _ c1 => oL (c1.cell 0 (u := .int .i64 _) rfl rfl)) ?_
           refine qd 48 (fun _ _ => op_geq rfl rfl) (fun h1516 => ?_) (fun h1516 => ?_)
           ·refine qa 2 ((50, .bool true) :: (49, .bool true) :: _) rfl ?_
            refine q_ 51 (fun _ _ => oF 2 2 rfl) ?_
            refine q_ 52 (fun _ c1 => oL (c1.cell 0 (u := .int .i64 _) rfl rfl)) ?_
            refine qa 3 ((9, .bool _) :: (54, .bool _) :: (53, .bool _) :: _) rfl ?_
            exact leaf_q (sub_out 12 _ rfl (by kernel_rfl) ⟨(congrArg Value.bool (by rw [h1515, decide_eq_true h1516] <;> rfl)), trivial⟩)
           ·refine qa 7 ((9, .bool false) :: (54, .bool false) :: (53, undef) :: (52, undef) :: (51, undef) :: (50, .bool false) :: (49, .bool false) :: _) rfl ?_
            exact leaf_q (sub_out 12 _ rfl (by kernel_rfl) ⟨(congrArg Value.bool (by rw [h1515, decide_eq_false h1516] <;> rfl)), trivial⟩)
          ·refine qa 11 ((9, .bool false) :: (54, .bool false) :: (53, undef) :: (52, undef) :: (51, undef) :: (50, .bool false) :: (49, .bool false) :: (48, undef) :: (47, undef) :: (46, undef) :: (45, .bool false) :: _) rfl ?_
           exact leaf_q (sub_out 12 _ rfl (by kernel_rfl) ⟨(congrArg Value.bool (by rw [h1515] <;> rfl)), trivial⟩)
         refine xm_next ?_
         refine sr ?_
         refine la 1 ((55, .bool _) :: _) rfl ?_
         refine nn ?_
         refine cm_condB (by kernel_rfl) rfl (fun h1517 => ?_) (fun h1517 => ?_)
         ·refine cm_region ?_
          refine la 1 ((56, .int .i64 _) :: _) rfl ?_
          refine v_ 57 (fun _ _ => oF 2 2 rfl) ?_
          refine v_ 58 (fun _ c1 => oL (c1.cell 0 (u := .int .i64 _) rfl rfl)) ?_
          refine lm_ck (fun h1518 => ?_)
          refine v_ 59 (fun _ _ => op_add rfl rfl h1518) ?_
          refine la 1 ((8, .int .i64 _) :: _) rfl ?_
          refine lm_nil ?_
          refine xm_inN ?_
          exact xm_lnext () sq (sh [1, 2, 3, 4])
         ·refine cm_skip ?_
          refine xm_inN ?_
          exact xm_lnext () sq (sh [1, 2, 3, 4])
       intro s1510 u1511
       refine cm_region ?_
       refine lm_ck (fun h1519 => ?_)
       refine v_ 60 (fun _ _ => op_add rfl rfl h1519) ?_
       refine la 1 ((36, .int .i64 _) :: _) rfl ?_
       refine lm_nil ?_
       exact xm_lnext () sq (sh [0, 1, 2, 3])
      ·refine cm_exit ?_
       refine xm_thenE ?_
       refine xm_lexit ?_
       refine xm_here ?_
       exact xm_lnext () sq (sh [0, 1, 2, 3])
     intro s1460 u1461
     refine cm_seq ?_
     refine cm_cutE [(67, .bool ((!s1460.2) || (decide (s1460.1 ≠ (ix p0.Costs s1273.2)))))] ?_ ?_
     ·refine wq_bool 61 (by kernel_rfl) (fun w1 c1 => (op_move (v := .bool _) rfl)) (fun h1520 => ?_) (fun h1520 => ?_)
      ·refine qa 6 ((67, .bool _) :: (66, .bool _) :: (65, .int .i64 _) :: (64, .int .i64 _) :: (63, .bool false) :: (62, .bool false) :: _) rfl ?_
       exact leaf_q (sub_out 7 _ rfl (by kernel_rfl) ⟨(congrArg Value.bool (by rw [h1520] <;> rfl)), trivial⟩)
      ·refine qa 6 ((67, .bool true) :: (66, undef) :: (65, undef) :: (64, undef) :: (63, .bool true) :: (62, .bool true) :: _) rfl ?_
       exact leaf_q (sub_out 7 _ rfl (by kernel_rfl) ⟨(congrArg Value.bool (by rw [h1520] <;> rfl)), trivial⟩)
     refine xm_next ?_
     refine cm_condB (by kernel_rfl) rfl (fun h1521 => ?_) (fun h1521 => ?_)
     ·refine cm_region ?_
      refine la 2 ((69, .int .i64 _) :: (68, .func _ _ _) :: _) rfl ?_
      refine lm_callH 70 (V := (fun (_r : Unit) (_u : (Option Addr) × Nat × Nat) => (.tuple #[] : Value))) [blkE u10 50 [.pointer (some ⟨b8, 0, none⟩)], blkE b8 41 [.slice u1274.1 u1274.2.1 u1274.2.2], ownE 60 3 encApiFinding u1274.1 u1274.2.1 u1274.2.2 s1273.1] [blkE b5 40 [.int .i64 p0.Now, .slice A_p01 n_p01 c_p01, .slice A_p02 n_p02 c_p02, .slice A_p03 n_p03 c_p03, .slice A_p04 n_p04 c_p04, .slice A_p05 n_p05 c_p05, .int .i64 p0.Account.Gap, .slice A_p06 n_p06 c_p06, .int .i64 p0.Inside, .int .i64 p0.Bins, .slice A_p07 n_p07 c_p07, .slice A_p08 n_p08 c_p08, .slice A_p09 n_p09 c_p09, .slice A_p010 n_p010 c_p010, .slice A_p011 n_p011 c_p011, .slice A_p012 n_p012 c_p012, .slice A_p013 n_p013 c_p013, .slice A_p014 n_p014 c_p014, .slice A_p015 n_p015 c_p015]] (O := (fun (_r : Unit) (u : (Option Addr) × Nat × Nat) => [blkE u10 50 [.pointer (some ⟨b8, 0, none⟩)], blkE b8 41 [.slice u.1 u.2.1 u.2.2], ownE 60 3 encApiFinding u.1 u.2.1 u.2.2 (s1273.1 ++ ([(ApiFinding.mk (9 : Int) s1273.2 (0 : Int))]))])) (sh [3, 1, 2, 0]) (by kernel_rfl) (fun w1 => op_callv rfl (by kernel_rfl)) (fun r1 hr1 w1 c1 => m_audit_collector_1_ok N w0 w1 [blkE b5 40 [.int .i64 p0.Now, .slice A_p01 n_p01 c_p01, .slice A_p02 n_p02 c_p02, .slice A_p03 n_p03 c_p03, .slice A_p04 n_p04 c_p04, .slice A_p05 n_p05 c_p05, .int .i64 p0.Account.Gap, .slice A_p06 n_p06 c_p06, .int .i64 p0.Inside, .int .i64 p0.Bins, .slice A_p07 n_p07 c_p07, .slice A_p08 n_p08 c_p08, .slice A_p09 n_p09 c_p09, .slice A_p010 n_p010 c_p010, .slice A_p011 n_p011 c_p011, .slice A_p012 n_p012 c_p012, .slice A_p013 n_p013 c_p013, .slice A_p014 n_p014 c_p014, .slice A_p015 n_p015 c_p015]] (9 : Int) s1273.2 (0 : Int) () s1273.1 u10 b8 u1274.1 u1274.2.1 u1274.2.2  c1 r1 hr1) ?_
      intro r1522 u1523
      refine lm_nil ?_
      refine xm_inN ?_
      exact xm_lnext (u1523.1, u1523.2.1, u1523.2.2) sq (sh [3, 1, 2, 0])
     ·refine cm_skip ?_
      refine xm_inN ?_
      exact xm_lnext (u1274.1, u1274.2.1, u1274.2.2) sq (sh [0, 1, 2, 3])
    intro s1399 u1400
    refine cm_region ?_
    refine lm_ck (fun h1524 => ?_)
    refine v_ 71 (fun _ _ => op_add rfl rfl h1524) ?_
    refine la 1 ((28, .int .i64 _) :: _) rfl ?_
    refine lm_nil ?_
    exact xm_lnext (u1400.1, u1400.2.1, u1400.2.2) sq (sh [0, 1, 2, 3])
   ·refine cm_exit ?_
    refine xm_thenE ?_
    refine xm_lexit ?_
    refine xm_here ?_
    exact xm_lnext (u1274.1, u1274.2.1, u1274.2.2) sq (sh [0, 1, 2, 3])
  intro s767 u768
  refine cm_join (σ := (List ApiFinding)) (ξ := (Option Addr) × Nat × Nat) (fun s1579 u1580 => [(4, .pointer (some ⟨b8, 0, none⟩))]) (fun s1579 u1580 => [blkE b8 41 [.slice u1580.1 u1580.2.1 u1580.2.2], ownE 60 3 encApiFinding u1580.1 u1580.2.1 u1580.2.2 s1579]) ?_ ?_
  ·refine sr ?_
   refine v_ 72 (fun _ _ => oF 16 16 rfl) ?_
   refine v_ 73 (fun _ c1 => oL (c1.cell 0 (u := .slice _ _ _) rfl rfl)) ?_
   refine v_ 74 (fun _ _ => op_lenN rfl (by kernel_rfl) hz_p013.2.2) ?_
   refine la 1 ((75, .int .i64 _) :: _) rfl ?_
   refine nn ?_
   refine cm_block ?_
   refine cm_loop (σ := (List ApiFinding) × Int) (ξ := (Option Addr) × Nat × Nat) (fun s1617 u1618 => [(1, .pointer (some ⟨b5, 0, none⟩)), (4, .pointer (some ⟨b8, 0, none⟩)), (5, .func (.func 12) #[] #[.pointer (some ⟨u10, 0, none⟩)]), (73, .slice A_p013 n_p013 c_p013), (74, .int .i64 (List.length p0.Fees : Int)), (75, .int .i64 s1617.2)]) (fun s1617 u1618 => [blkE b5 40 [.int .i64 p0.Now, .slice A_p01 n_p01 c_p01, .slice A_p02 n_p02 c_p02, .slice A_p03 n_p03 c_p03, .slice A_p04 n_p04 c_p04, .slice A_p05 n_p05 c_p05, .int .i64 p0.Account.Gap, .slice A_p06 n_p06 c_p06, .int .i64 p0.Inside, .int .i64 p0.Bins, .slice A_p07 n_p07 c_p07, .slice A_p08 n_p08 c_p08, .slice A_p09 n_p09 c_p09, .slice A_p010 n_p010 c_p010, .slice A_p011 n_p011 c_p011, .slice A_p012 n_p012 c_p012, .slice A_p013 n_p013 c_p013, .slice A_p014 n_p014 c_p014, .slice A_p015 n_p015 c_p015], blkE b8 41 [.slice u1618.1 u1618.2.1 u1618.2.2], ownE 60 3 encApiFinding u1618.1 u1618.2.1 u1618.2.2 s1617.1, blkE u10 50 [.pointer (some ⟨b8, 0, none⟩)]]) (u768.1, u768.2.1, u768.2.2) ?_ ?_ ?_
   ·exact sq
   ·exact sh [0, 1, 2, 3]
   intro s1617 u1618
   refine sr ?_
   refine la 1 ((76, .bool _) :: _) rfl ?_
   refine nn ?_
   refine cm_seq ?_
   refine cm_cond (by kernel_rfl) rfl (fun h1619 => ?_) (fun h1619 => ?_)
   ·refine sk ?_
    refine cm_join (σ := (List ApiFinding)) (ξ := (Option Addr) × Nat × Nat) (fun s1626 u1627 => [(1, .pointer (some ⟨b5, 0, none⟩)), (4, .pointer (some ⟨b8, 0, none⟩)), (5, .func (.func 12) #[] #[.pointer (some ⟨u10, 0, none⟩)]), (73, .slice A_p013 n_p013 c_p013), (74, .int .i64 (List.length p0.Fees : Int)), (75, .int .i64 s1617.2)]) (fun s1626 u1627 => [blkE b5 40 [.int .i64 p0.Now, .slice A_p01 n_p01 c_p01, .slice A_p02 n_p02 c_p02, .slice A_p03 n_p03 c_p03, .slice A_p04 n_p04 c_p04, .slice A_p05 n_p05 c_p05, .int .i64 p0.Account.Gap, .slice A_p06 n_p06 c_p06, .int .i64 p0.Inside, .int .i64 p0.Bins, .slice A_p07 n_p07 c_p07, .slice A_p08 n_p08 c_p08, .slice A_p09 n_p09 c_p09, .slice A_p010 n_p010 c_p010, .slice A_p011 n_p011 c_p011, .slice A_p012 n_p012 c_p012, .slice A_p013 n_p013 c_p013, .slice A_p014 n_p014 c_p014, .slice A_p015 n_p015 c_p015], blkE b8 41 [.slice u1627.1 u1627.2.1 u1627.2.2], ownE 60 3 encApiFinding u1627.1 u1627.2.1 u1627.2.2 s1626, blkE u10 50 [.pointer (some ⟨b8, 0, none⟩)]]) ?_ ?_
    ·refine cm_block ?_
     refine sr ?_
     refine lm_ck (fun h1628 => ?_)
     refine v_ 77 (fun _ c1 => oI 3 rfl rfl ((hr_p013.old c1).addr h1628.1 h1628.2) hz_p013.2.2 h1628) ?_
     refine v_ 78 (fun _ c1 => oR [.int .i64 ((ix p0.Fees s1617.2).Producer), .int .i64 ((ix p0.Fees s1617.2).Material), .int .i64 ((ix p0.Fees s1617.2).Amount)] ((hr_p013.old c1).row h1628.1 h1628.2)) ?_
     refine lm_alloc 13 [.int .i64 0, .int .i64 0, .int .i64 0] (v := .agg #[.int .i64 0, .int .i64 0, .int .i64 0]) (by kernel_rfl) (by kernel_rfl) rfl ?_
     intro b1629
     refine lm_storeA 0 [.int .i64 _, .int .i64 _, .int .i64 _] [_, _, _] (H' := [blkE _ _ [_, _, _], _, _, _, _]) (by kernel_rfl) rfl rfl (by kernel_rfl) rfl rfl (by kernel_rfl) rfl rfl ?_
     refine nn ?_
     refine cm_seq ?_
     refine cm_cutE [(89, .bool ((decide ((ix p0.Fees s1617.2).Material < 0)) || (decide ((List.length p0.Costs : Int) ≤ (ix p0.Fees s1617.2).Material))))] ?_ ?_
     ·refine q_ 79 (fun _ _ => oF 1 1 rfl) ?_
      refine q_ 80 (fun _ c1 => oL (c1.cell 0 (u := .int .i64 _) rfl rfl)) ?_
      refine qd 81 (fun _ _ => op_lss rfl rfl) (fun h1630 => ?_) (fun h1630 => ?_)
      ·refine qa 8 ((89, .bool true) :: (88, undef) :: (87, undef) :: (86, undef) :: (85, undef) :: (84, undef) :: (83, undef) :: (82, .bool true) :: _) rfl ?_
       exact leaf_q (sub_out 11 _ rfl (by kernel_rfl) ⟨(congrArg Value.bool (by rw [decide_eq_true h1630] <;> rfl)), trivial⟩)
      ·refine qa 1 ((82, .bool false) :: _) rfl ?_
       refine q_ 83 (fun _ _ => oF 1 1 rfl) ?_
       refine q_ 84 (fun _ c1 => oL (c1.cell 0 (u := .int .i64 _) rfl rfl)) ?_
       refine q_ 85 (fun _ _ => oF 15 15 rfl) ?_
       refine q_ 86 (fun _ c1 => oL (c1.cell 1 (u := .slice _ _ _) rfl rfl)) ?_
       refine q_ 87 (fun _ _ => op_lenN rfl (by kernel_rfl) hz_p012.2.2) ?_
       refine qa 2 ((89, .bool _) :: (88, .bool _) :: _) rfl ?_
       exact leaf_q (sub_out 11 _ rfl (by kernel_rfl) ⟨(congrArg Value.bool (by rw [decide_eq_false h1630] <;> rfl)), trivial⟩)
     refine xm_next ?_
     refine cm_condB (by kernel_rfl) rfl (fun h1631 => ?_) (fun h1631 => ?_)
     ·refine cm_region ?_
      refine la 1 ((90, .func _ _ _) :: _) rfl ?_
      refine v_ 91 (fun _ _ => oF 1 1 rfl) ?_
      refine v_ 92 (fun _ c1 => oL (c1.cell 0 (u := .int .i64 _) rfl rfl)) ?_
      refine lm_callH 93 (V := (fun (_r : Unit) (_u : (Option Addr) × Nat × Nat) => (.tuple #[] : Value))) [blkE u10 50 [.pointer (some ⟨b8, 0, none⟩)], blkE b8 41 [.slice u1618.1 u1618.2.1 u1618.2.2], ownE 60 3 encApiFinding u1618.1 u1618.2.1 u1618.2.2 s1617.1] [blkE b1629 52 [.int .i64 ((ix p0.Fees s1617.2).Producer), .int .i64 ((ix p0.Fees s1617.2).Material), .int .i64 ((ix p0.Fees s1617.2).Amount)], blkE b5 40 [.int .i64 p0.Now, .slice A_p01 n_p01 c_p01, .slice A_p02 n_p02 c_p02, .slice A_p03 n_p03 c_p03, .slice A_p04 n_p04 c_p04, .slice A_p05 n_p05 c_p05, .int .i64 p0.Account.Gap, .slice A_p06 n_p06 c_p06, .int .i64 p0.Inside, .int .i64 p0.Bins, .slice A_p07 n_p07 c_p07, .slice A_p08 n_p08 c_p08, .slice A_p09 n_p09 c_p09, .slice A_p010 n_p010 c_p010, .slice A_p011 n_p011 c_p011, .slice A_p012 n_p012 c_p012, .slice A_p013 n_p013 c_p013, .slice A_p014 n_p014 c_p014, .slice A_p015 n_p015 c_p015]] (O := (fun (_r : Unit) (u : (Option Addr) × Nat × Nat) => [blkE u10 50 [.pointer (some ⟨b8, 0, none⟩)], blkE b8 41 [.slice u.1 u.2.1 u.2.2], ownE 60 3 encApiFinding u.1 u.2.1 u.2.2 (s1617.1 ++ ([(ApiFinding.mk (9 : Int) ((ix p0.Fees s1617.2).Material) (0 : Int))]))])) (sh [4, 2, 3, 0, 1]) (by kernel_rfl) (fun w1 => op_callv rfl (by kernel_rfl)) (fun r1 hr1 w1 c1 => m_audit_collector_1_ok N w0 w1 [blkE b1629 52 [.int .i64 ((ix p0.Fees s1617.2).Producer), .int .i64 ((ix p0.Fees s1617.2).Material), .int .i64 ((ix p0.Fees s1617.2).Amount)], blkE b5 40 [.int .i64 p0.Now, .slice A_p01 n_p01 c_p01, .slice A_p02 n_p02 c_p02, .slice A_p03 n_p03 c_p03, .slice A_p04 n_p04 c_p04, .slice A_p05 n_p05 c_p05, .int .i64 p0.Account.Gap, .slice A_p06 n_p06 c_p06, .int .i64 p0.Inside, .int .i64 p0.Bins, .slice A_p07 n_p07 c_p07, .slice A_p08 n_p08 c_p08, .slice A_p09 n_p09 c_p09, .slice A_p010 n_p010 c_p010, .slice A_p011 n_p011 c_p011, .slice A_p012 n_p012 c_p012, .slice A_p013 n_p013 c_p013, .slice A_p014 n_p014 c_p014, .slice A_p015 n_p015 c_p015]] (9 : Int) ((ix p0.Fees s1617.2).Material) (0 : Int) () s1617.1 u10 b8 u1618.1 u1618.2.1 u1618.2.2  c1 r1 hr1) ?_
      intro r1632 u1633
      refine lm_nil ?_
      refine xm_inN ?_
      exact xm_lnext (u1633.1, u1633.2.1, u1633.2.2) sq (sh [4, 1, 2, 0])
     ·refine cm_skip ?_
      refine xm_inN ?_
      exact xm_lnext (u1618.1, u1618.2.1, u1618.2.2) sq (sh [1, 2, 3, 4])
    intro s1626 u1627
    refine cm_region ?_
    refine lm_ck (fun h1634 => ?_)
    refine v_ 94 (fun _ _ => op_add rfl rfl h1634) ?_
    refine la 1 ((75, .int .i64 _) :: _) rfl ?_
    refine lm_nil ?_
    exact xm_lnext (u1627.1, u1627.2.1, u1627.2.2) sq (sh [0, 1, 2, 3])
   ·refine cm_exit ?_
    refine xm_thenE ?_
    refine xm_lexit ?_
    refine xm_here ?_
    exact xm_lnext (u1618.1, u1618.2.1, u1618.2.2) sq (sh [1, 2])
  intro s1579 u1580
  refine sr ?_
  refine v_ 95 (fun _ c1 => oL (c1.cell 0 (u := .slice _ _ _) rfl rfl)) ?_
  refine la 2 ((3, .int .i64 _) :: (2, .slice _ _ _) :: _) rfl ?_
  refine nn ?_
  refine cm_ret ?_
  exact xm_retTT rfl (by kernel_rfl) (show _ = Value.slice _ _ _ from rfl) (by kernel_rfl) (show _ = Value.int .i64 _ from rfl) fun w1 c1 => ⟨(u1580.1, u1580.2.1, u1580.2.2), rfl, hsub [1] (by kernel_rfl) rfl w1 c1⟩
end Go.Proofs.YtbnimhmoffchdaaDoor
