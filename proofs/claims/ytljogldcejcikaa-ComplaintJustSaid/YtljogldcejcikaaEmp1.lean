/- Models of functions, and that the code follows them. Written by deco.py. -/
import Derived.Test.YtljogldcejcikaaDSort1
import Derived.Test.YtljogldcejcikaaDIf
import Derived.Test.YtljogldcejcikaaShelf
namespace Go.Proofs.Ytljogldcejcikaa
open Go.RowKit

structure ApiComplaint where
  Bill : Int
  Item : Int
  At : Int
  Kind : Int
deriving DecidableEq, Inhabited
def encApiComplaint (x : ApiComplaint) : List Value := [.int .i64 x.Bill, .int .i64 x.Item, .int .i64 x.At, .int .i64 x.Kind]
def valApiComplaint (x : ApiComplaint) : Value := .agg #[.int .i64 x.Bill, .int .i64 x.Item, .int .i64 x.At, .int .i64 x.Kind]
theorem encApiComplaint_len (x : ApiComplaint) : (encApiComplaint x).length = 4 := rfl
theorem encApiComplaint_one (x : ApiComplaint) : (encApiComplaint x).all Value.oneCell' = true := rfl
structure ApiWindow where
  From : Int
  To : Int
deriving DecidableEq, Inhabited
def encApiWindow (x : ApiWindow) : List Value := [.int .i64 x.From, .int .i64 x.To]
def valApiWindow (x : ApiWindow) : Value := .agg #[.int .i64 x.From, .int .i64 x.To]
theorem encApiWindow_len (x : ApiWindow) : (encApiWindow x).length = 2 := rfl
theorem encApiWindow_one (x : ApiWindow) : (encApiWindow x).all Value.oneCell' = true := rfl
structure ApiItem where
  Kind : Int
  Ref : Int
  Count : Int
  Price : Int
  Amount : Int
deriving DecidableEq, Inhabited
def encApiItem (x : ApiItem) : List Value := [.int .i64 x.Kind, .int .i64 x.Ref, .int .i64 x.Count, .int .i64 x.Price, .int .i64 x.Amount]
def valApiItem (x : ApiItem) : Value := .agg #[.int .i64 x.Kind, .int .i64 x.Ref, .int .i64 x.Count, .int .i64 x.Price, .int .i64 x.Amount]
theorem encApiItem_len (x : ApiItem) : (encApiItem x).length = 5 := rfl
theorem encApiItem_one (x : ApiItem) : (encApiItem x).all Value.oneCell' = true := rfl
structure ApiBill where
  ID : Int
  Household : Int
  When : ApiWindow
  Items : (List ApiItem)
  Total : Int
deriving Inhabited
structure ApiRuling where
  Credit : Int
  Err : Int
deriving DecidableEq, Inhabited
def encApiRuling (x : ApiRuling) : List Value := [.int .i64 x.Credit, .int .i64 x.Err]
def valApiRuling (x : ApiRuling) : Value := .agg #[.int .i64 x.Credit, .int .i64 x.Err]
theorem encApiRuling_len (x : ApiRuling) : (encApiRuling x).length = 2 := rfl
theorem encApiRuling_one (x : ApiRuling) : (encApiRuling x).all Value.oneCell' = true := rfl
structure ApiHousehold where
  ID : ByteArray
  Persons : Int
deriving DecidableEq, Inhabited
def encApiHousehold (x : ApiHousehold) : List Value := [.string x.ID, .int .i64 x.Persons]
def valApiHousehold (x : ApiHousehold) : Value := .agg #[.string x.ID, .int .i64 x.Persons]
theorem encApiHousehold_len (x : ApiHousehold) : (encApiHousehold x).length = 2 := rfl
theorem encApiHousehold_one (x : ApiHousehold) : (encApiHousehold x).all Value.oneCell' = true := rfl
structure ApiContainer where
  ID : ByteArray
  Kind : Int
  Litres : Int
  Grams : Int
  Node : Int
deriving DecidableEq, Inhabited
def encApiContainer (x : ApiContainer) : List Value := [.string x.ID, .int .i64 x.Kind, .int .i64 x.Litres, .int .i64 x.Grams, .int .i64 x.Node]
def valApiContainer (x : ApiContainer) : Value := .agg #[.string x.ID, .int .i64 x.Kind, .int .i64 x.Litres, .int .i64 x.Grams, .int .i64 x.Node]
theorem encApiContainer_len (x : ApiContainer) : (encApiContainer x).length = 5 := rfl
theorem encApiContainer_one (x : ApiContainer) : (encApiContainer x).all Value.oneCell' = true := rfl
structure ApiAssign where
  Container : Int
  Household : Int
  When : ApiWindow
deriving DecidableEq, Inhabited
def encApiAssign (x : ApiAssign) : List Value := [.int .i64 x.Container, .int .i64 x.Household, .int .i64 x.When.From, .int .i64 x.When.To]
def valApiAssign (x : ApiAssign) : Value := .agg #[.int .i64 x.Container, .int .i64 x.Household, .int .i64 x.When.From, .int .i64 x.When.To]
theorem encApiAssign_len (x : ApiAssign) : (encApiAssign x).length = 4 := rfl
theorem encApiAssign_one (x : ApiAssign) : (encApiAssign x).all Value.oneCell' = true := rfl
structure ApiSpan where
  Lo : Int
  Hi : Int
deriving DecidableEq, Inhabited
def encApiSpan (x : ApiSpan) : List Value := [.int .i64 x.Lo, .int .i64 x.Hi]
def valApiSpan (x : ApiSpan) : Value := .agg #[.int .i64 x.Lo, .int .i64 x.Hi]
theorem encApiSpan_len (x : ApiSpan) : (encApiSpan x).length = 2 := rfl
theorem encApiSpan_one (x : ApiSpan) : (encApiSpan x).all Value.oneCell' = true := rfl
structure ApiEmptying where
  ID : Int
  Container : Int
  Vehicle : Int
  At : Int
  Mass : ApiSpan
  Void : Bool
deriving DecidableEq, Inhabited
def encApiEmptying (x : ApiEmptying) : List Value := [.int .i64 x.ID, .int .i64 x.Container, .int .i64 x.Vehicle, .int .i64 x.At, .int .i64 x.Mass.Lo, .int .i64 x.Mass.Hi, .bool x.Void]
def valApiEmptying (x : ApiEmptying) : Value := .agg #[.int .i64 x.ID, .int .i64 x.Container, .int .i64 x.Vehicle, .int .i64 x.At, .int .i64 x.Mass.Lo, .int .i64 x.Mass.Hi, .bool x.Void]
theorem encApiEmptying_len (x : ApiEmptying) : (encApiEmptying x).length = 7 := rfl
theorem encApiEmptying_one (x : ApiEmptying) : (encApiEmptying x).all Value.oneCell' = true := rfl
structure ApiTariff where
  From : Int
  Base : Int
  Empty : Int
  Kilo : Int
  Free : Int
deriving DecidableEq, Inhabited
def encApiTariff (x : ApiTariff) : List Value := [.int .i64 x.From, .int .i64 x.Base, .int .i64 x.Empty, .int .i64 x.Kilo, .int .i64 x.Free]
def valApiTariff (x : ApiTariff) : Value := .agg #[.int .i64 x.From, .int .i64 x.Base, .int .i64 x.Empty, .int .i64 x.Kilo, .int .i64 x.Free]
theorem encApiTariff_len (x : ApiTariff) : (encApiTariff x).length = 5 := rfl
theorem encApiTariff_one (x : ApiTariff) : (encApiTariff x).all Value.oneCell' = true := rfl
structure ApiAccount where
  Households : (List ApiHousehold)
  Containers : (List ApiContainer)
  Assigns : (List ApiAssign)
  Emptyings : (List ApiEmptying)
  Tariffs : (List ApiTariff)
  Gap : Int
deriving Inhabited
structure Recyclinglaw57Case where
  Account : ApiAccount
  Bill : ApiBill
  Complaint : ApiComplaint
  Days : Int
deriving Inhabited
end Go.Proofs.Ytljogldcejcikaa
