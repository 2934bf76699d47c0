/- How the arguments of the laws are opened. Written by drow.py. -/
import Derived.Test.YtbnimhmoffchdaaGreatDoorDRo
import Derived.Test.YtbnimhmoffchdaaGreatDoorZLComplete
namespace Go.Proofs.YtbnimhmoffchdaaGreatDoor
open Go.ChangeShapes Go.WideShapes Go.RowKit Go.Deep

theorem strK_of {H : Type} {enc : TypeId × Value → H} {P : Program} {w : World} {base : Nat} {spare : Nat → Bool} {held : Bool} {fuel : Nat} {x : DataW H × List MemPlace} {t : TypeId} {v : Value} (ht : P.underlying t = some .string) (h : DataW.trod enc P w base spare held fuel t [v] = some x) : ∃ s : ByteArray, v = .string s := by
 obtain ⟨s, e, _⟩ := DataW.trod_string ht h
 simp only [List.cons.injEq, and_true] at e
 exact ⟨s, e⟩
section
variable {H : Type} {enc : TypeId × Value → H} {w : World} {base : Nat} {spare : Nat → Bool} {held : Bool} {fuel : Nat} {cs : List Value} {x : DataW H × List MemPlace}
theorem fa (j ty off k : Nat) {t : TypeId} {fs : Array Field} {cs : List Value} (hs : Tryz.prog.underlying t = some (.struct fs)) (h : DataW.trod enc Tryz.prog w base spare held fuel t cs = some x) (hj : (fs[j]?).map (fun f => (f.type, f.offset)) = some (ty, off) := by kernel_rfl) (hk : Tryz.prog.cellsOf ty = k := by kernel_rfl) : ∃ n y, DataW.trod enc Tryz.prog w base spare held n ty ((cs.drop off).take k) = some y := field_at hs hj hk h
theorem fi (v : Value) (j off : Nat) {t : TypeId} {fs : Array Field} {cs : List Value} (hs : Tryz.prog.underlying t = some (.struct fs)) (h : DataW.trod enc Tryz.prog w base spare held fuel t cs = some x) (hj : (fs[j]?).map (fun f => (f.type, f.offset)) = some (3, off) := by kernel_rfl) (hv : (cs.drop off).take 1 = [v] := by rfl) : ∃ n, v = .int .i64 n ∧ (Lit.int .i64 n).wf = true := by
 obtain ⟨_, _, g⟩ := fa j 3 off 1 hs h hj
 rw [hv] at g
 exact intK_of Tryz.underlying3 g
def wfApiHousehold (x : ApiHousehold) : Prop := I64 x.Persons
set_option maxRecDepth 100000 in
theorem el_ApiHousehold (h : DataW.trod enc Tryz.prog w base spare held fuel 131 cs = some x) : ∃ a : ApiHousehold, cs = encApiHousehold a ∧ wfApiHousehold a := by
 have hl : cs.length = 2 := (struct_len Tryz.underlying131 h).trans (by kernel_rfl)
 match cs, hl with
 | [c0, c1], _ =>
  obtain ⟨_, _, g1⟩ := fa 0 9 0 1 Tryz.underlying131 h
  obtain ⟨n0, rfl⟩ := strK_of (v := c0) Tryz.underlying9 g1
  obtain ⟨n1, rfl, w1⟩ := fi c1 1 1 Tryz.underlying131 h
  exact ⟨⟨n0, n1⟩, rfl, bounds_i64 w1⟩
def wfApiContainer (x : ApiContainer) : Prop := I64 x.Kind ∧ I64 x.Litres ∧ I64 x.Grams ∧ I64 x.Node
set_option maxRecDepth 100000 in
theorem el_ApiContainer (h : DataW.trod enc Tryz.prog w base spare held fuel 128 cs = some x) : ∃ a : ApiContainer, cs = encApiContainer a ∧ wfApiContainer a := by
 have hl : cs.length = 5 := (struct_len Tryz.underlying128 h).trans (by kernel_rfl)
 match cs, hl with
 | [c0, c1, c2, c3, c4], _ =>
  obtain ⟨_, _, g1⟩ := fa 0 9 0 1 Tryz.underlying128 h
  obtain ⟨n0, rfl⟩ := strK_of (v := c0) Tryz.underlying9 g1
  obtain ⟨n1, rfl, w1⟩ := fi c1 1 1 Tryz.underlying128 h
  obtain ⟨n2, rfl, w2⟩ := fi c2 2 2 Tryz.underlying128 h
  obtain ⟨n3, rfl, w3⟩ := fi c3 3 3 Tryz.underlying128 h
  obtain ⟨n4, rfl, w4⟩ := fi c4 4 4 Tryz.underlying128 h
  exact ⟨⟨n0, n1, n2, n3, n4⟩, rfl, ⟨bounds_i64 w1, bounds_i64 w2, bounds_i64 w3, bounds_i64 w4⟩⟩
def wfApiAssign (x : ApiAssign) : Prop := I64 x.Container ∧ I64 x.Household ∧ I64 x.When.From ∧ I64 x.When.To
set_option maxRecDepth 100000 in
theorem el_ApiAssign (h : DataW.trod enc Tryz.prog w base spare held fuel 133 cs = some x) : ∃ a : ApiAssign, cs = encApiAssign a ∧ wfApiAssign a := by
 have hl : cs.length = 4 := (struct_len Tryz.underlying133 h).trans (by kernel_rfl)
 match cs, hl with
 | [c0, c1, c2, c3], _ =>
  obtain ⟨n0, rfl, w0⟩ := fi c0 0 0 Tryz.underlying133 h
  obtain ⟨n1, rfl, w1⟩ := fi c1 1 1 Tryz.underlying133 h
  obtain ⟨_, _, g3⟩ := fa 2 49 2 2 Tryz.underlying133 h
  obtain ⟨n2, rfl, w2⟩ := fi c2 0 0 Tryz.underlying49 g3
  obtain ⟨n3, rfl, w3⟩ := fi c3 1 1 Tryz.underlying49 g3
  exact ⟨⟨n0, n1, ⟨n2, n3⟩⟩, rfl, ⟨bounds_i64 w0, bounds_i64 w1, bounds_i64 w2, bounds_i64 w3⟩⟩
def wfApiEmptying (x : ApiEmptying) : Prop := I64 x.ID ∧ I64 x.Container ∧ I64 x.Vehicle ∧ I64 x.At ∧ I64 x.Mass.Lo ∧ I64 x.Mass.Hi
set_option maxRecDepth 100000 in
theorem el_ApiEmptying (h : DataW.trod enc Tryz.prog w base spare held fuel 117 cs = some x) : ∃ a : ApiEmptying, cs = encApiEmptying a ∧ wfApiEmptying a := by
 have hl : cs.length = 7 := (struct_len Tryz.underlying117 h).trans (by kernel_rfl)
 match cs, hl with
 | [c0, c1, c2, c3, c4, c5, c6], _ =>
  obtain ⟨n0, rfl, w0⟩ := fi c0 0 0 Tryz.underlying117 h
  obtain ⟨n1, rfl, w1⟩ := fi c1 1 1 Tryz.underlying117 h
  obtain ⟨n2, rfl, w2⟩ := fi c2 2 2 Tryz.underlying117 h
  obtain ⟨n3, rfl, w3⟩ := fi c3 3 3 Tryz.underlying117 h
  obtain ⟨_, _, g5⟩ := fa 4 58 4 2 Tryz.underlying117 h
  obtain ⟨n4, rfl, w4⟩ := fi c4 0 0 Tryz.underlying58 g5
  obtain ⟨n5, rfl, w5⟩ := fi c5 1 1 Tryz.underlying58 g5
  obtain ⟨_, _, g8⟩ := fa 5 4 6 1 Tryz.underlying117 h
  obtain ⟨n6, rfl⟩ := bool_of (v := c6) Tryz.underlying4 g8
  exact ⟨⟨n0, n1, n2, n3, ⟨n4, n5⟩, n6⟩, rfl, ⟨bounds_i64 w0, bounds_i64 w1, bounds_i64 w2, bounds_i64 w3, bounds_i64 w4, bounds_i64 w5⟩⟩
def wfApiTariff (x : ApiTariff) : Prop := I64 x.From ∧ I64 x.Base ∧ I64 x.Empty ∧ I64 x.Kilo ∧ I64 x.Free
set_option maxRecDepth 100000 in
theorem el_ApiTariff (h : DataW.trod enc Tryz.prog w base spare held fuel 108 cs = some x) : ∃ a : ApiTariff, cs = encApiTariff a ∧ wfApiTariff a := by
 have hl : cs.length = 5 := (struct_len Tryz.underlying108 h).trans (by kernel_rfl)
 match cs, hl with
 | [c0, c1, c2, c3, c4], _ =>
  obtain ⟨n0, rfl, w0⟩ := fi c0 0 0 Tryz.underlying108 h
  obtain ⟨n1, rfl, w1⟩ := fi c1 1 1 Tryz.underlying108 h
  obtain ⟨n2, rfl, w2⟩ := fi c2 2 2 Tryz.underlying108 h
  obtain ⟨n3, rfl, w3⟩ := fi c3 3 3 Tryz.underlying108 h
  obtain ⟨n4, rfl, w4⟩ := fi c4 4 4 Tryz.underlying108 h
  exact ⟨⟨n0, n1, n2, n3, n4⟩, rfl, ⟨bounds_i64 w0, bounds_i64 w1, bounds_i64 w2, bounds_i64 w3, bounds_i64 w4⟩⟩
def wfApiTransfer (x : ApiTransfer) : Prop := I64 x.From ∧ I64 x.To ∧ I64 x.Mass.Lo ∧ I64 x.Mass.Hi
set_option maxRecDepth 100000 in
theorem el_ApiTransfer (h : DataW.trod enc Tryz.prog w base spare held fuel 60 cs = some x) : ∃ a : ApiTransfer, cs = encApiTransfer a ∧ wfApiTransfer a := by
 have hl : cs.length = 4 := (struct_len Tryz.underlying60 h).trans (by kernel_rfl)
 match cs, hl with
 | [c0, c1, c2, c3], _ =>
  obtain ⟨n0, rfl, w0⟩ := fi c0 0 0 Tryz.underlying60 h
  obtain ⟨n1, rfl, w1⟩ := fi c1 1 1 Tryz.underlying60 h
  obtain ⟨_, _, g3⟩ := fa 2 58 2 2 Tryz.underlying60 h
  obtain ⟨n2, rfl, w2⟩ := fi c2 0 0 Tryz.underlying58 g3
  obtain ⟨n3, rfl, w3⟩ := fi c3 1 1 Tryz.underlying58 g3
  exact ⟨⟨n0, n1, ⟨n2, n3⟩⟩, rfl, ⟨bounds_i64 w0, bounds_i64 w1, bounds_i64 w2, bounds_i64 w3⟩⟩
theorem el_int3 (h : DataW.trod enc Tryz.prog w base spare held fuel 3 cs = some x) : ∃ a : Int, cs = encI a ∧ (fun x : Int => I64 x) a := by
 obtain ⟨n, rfl, _, hw⟩ := DataW.trod_int Tryz.underlying3 h
 exact ⟨n, rfl, bounds_i64 hw⟩
def wfApiBale (w : World) (x : ApiBale) (q1 : Hdr) : Prop := ((RdE w 1 encI q1.1 x.Mix ∧ SW q1.1 q1.2.1 q1.2.2 (List.length x.Mix))) ∧ (I64 x.ID ∧ I64 x.Material ∧ I64 x.At ∧ (∀ y ∈ x.Mix, (fun x : Int => I64 x) y))
set_option maxRecDepth 100000 in
theorem el_ApiBale (h : DataW.trod enc Tryz.prog w base spare held fuel 96 cs = some x) : ∃ (a : ApiBale) (q1 : Hdr), cs = encApiBale a q1 ∧ wfApiBale w a q1 := by
 have hl : cs.length = 4 := (struct_len Tryz.underlying96 h).trans (by kernel_rfl)
 match cs, hl with
 | [c0, c1, c2, c3], _ =>
  obtain ⟨n0, rfl, w0⟩ := fi c0 0 0 Tryz.underlying96 h
  obtain ⟨n1, rfl, w1⟩ := fi c1 1 1 Tryz.underlying96 h
  obtain ⟨n2, rfl, w2⟩ := fi c2 2 2 Tryz.underlying96 h
  obtain ⟨_, _, g4⟩ := fa 3 94 3 1 Tryz.underlying96 h
  obtain ⟨A3, m3, d3, x3, e3, z3, r3, f3⟩ := open_sl (ec := encI) (wf := (fun x : Int => I64 x)) (k := 1) Tryz.underlying94 (by kernel_rfl) (by kernel_rfl) (fun _ _ _ hh => el_int3 hh) g4
  obtain rfl : c3 = .slice A3 m3 d3 := by simpa using e3
  exact ⟨⟨n0, n1, n2, x3⟩, (A3, m3, d3), rfl, ⟨r3, z3⟩, ⟨bounds_i64 w0, bounds_i64 w1, bounds_i64 w2, f3⟩⟩
def wfApiProduct (x : ApiProduct) : Prop := I64 x.Producer ∧ I64 x.Deposit ∧ I64 x.Material ∧ I64 x.Grams
set_option maxRecDepth 100000 in
theorem el_ApiProduct (h : DataW.trod enc Tryz.prog w base spare held fuel 158 cs = some x) : ∃ a : ApiProduct, cs = encApiProduct a ∧ wfApiProduct a := by
 have hl : cs.length = 5 := (struct_len Tryz.underlying158 h).trans (by kernel_rfl)
 match cs, hl with
 | [c0, c1, c2, c3, c4], _ =>
  obtain ⟨_, _, g1⟩ := fa 0 9 0 1 Tryz.underlying158 h
  obtain ⟨n0, rfl⟩ := strK_of (v := c0) Tryz.underlying9 g1
  obtain ⟨n1, rfl, w1⟩ := fi c1 1 1 Tryz.underlying158 h
  obtain ⟨n2, rfl, w2⟩ := fi c2 2 2 Tryz.underlying158 h
  obtain ⟨n3, rfl, w3⟩ := fi c3 3 3 Tryz.underlying158 h
  obtain ⟨n4, rfl, w4⟩ := fi c4 4 4 Tryz.underlying158 h
  exact ⟨⟨n0, n1, n2, n3, n4⟩, rfl, ⟨bounds_i64 w1, bounds_i64 w2, bounds_i64 w3, bounds_i64 w4⟩⟩
def wfApiSale (x : ApiSale) : Prop := I64 x.Product ∧ I64 x.First ∧ I64 x.Count ∧ I64 x.Retailer ∧ I64 x.At
set_option maxRecDepth 100000 in
theorem el_ApiSale (h : DataW.trod enc Tryz.prog w base spare held fuel 154 cs = some x) : ∃ a : ApiSale, cs = encApiSale a ∧ wfApiSale a := by
 have hl : cs.length = 5 := (struct_len Tryz.underlying154 h).trans (by kernel_rfl)
 match cs, hl with
 | [c0, c1, c2, c3, c4], _ =>
  obtain ⟨n0, rfl, w0⟩ := fi c0 0 0 Tryz.underlying154 h
  obtain ⟨n1, rfl, w1⟩ := fi c1 1 1 Tryz.underlying154 h
  obtain ⟨n2, rfl, w2⟩ := fi c2 2 2 Tryz.underlying154 h
  obtain ⟨n3, rfl, w3⟩ := fi c3 3 3 Tryz.underlying154 h
  obtain ⟨n4, rfl, w4⟩ := fi c4 4 4 Tryz.underlying154 h
  exact ⟨⟨n0, n1, n2, n3, n4⟩, rfl, ⟨bounds_i64 w0, bounds_i64 w1, bounds_i64 w2, bounds_i64 w3, bounds_i64 w4⟩⟩
def wfApiClaim (x : ApiClaim) : Prop := I64 x.Serial ∧ I64 x.Machine ∧ I64 x.Seq ∧ I64 x.At
set_option maxRecDepth 100000 in
theorem el_ApiClaim (h : DataW.trod enc Tryz.prog w base spare held fuel 150 cs = some x) : ∃ a : ApiClaim, cs = encApiClaim a ∧ wfApiClaim a := by
 have hl : cs.length = 5 := (struct_len Tryz.underlying150 h).trans (by kernel_rfl)
 match cs, hl with
 | [c0, c1, c2, c3, c4], _ =>
  obtain ⟨n0, rfl, w0⟩ := fi c0 0 0 Tryz.underlying150 h
  obtain ⟨n1, rfl, w1⟩ := fi c1 1 1 Tryz.underlying150 h
  obtain ⟨n2, rfl, w2⟩ := fi c2 2 2 Tryz.underlying150 h
  obtain ⟨n3, rfl, w3⟩ := fi c3 3 3 Tryz.underlying150 h
  obtain ⟨_, _, g5⟩ := fa 4 4 4 1 Tryz.underlying150 h
  obtain ⟨n4, rfl⟩ := bool_of (v := c4) Tryz.underlying4 g5
  exact ⟨⟨n0, n1, n2, n3, n4⟩, rfl, ⟨bounds_i64 w0, bounds_i64 w1, bounds_i64 w2, bounds_i64 w3⟩⟩
def wfApiPayout (x : ApiPayout) : Prop := I64 x.Claim.Serial ∧ I64 x.Claim.Machine ∧ I64 x.Claim.Seq ∧ I64 x.Claim.At ∧ I64 x.Product ∧ I64 x.Amount
set_option maxRecDepth 100000 in
theorem el_ApiPayout (h : DataW.trod enc Tryz.prog w base spare held fuel 152 cs = some x) : ∃ a : ApiPayout, cs = encApiPayout a ∧ wfApiPayout a := by
 have hl : cs.length = 7 := (struct_len Tryz.underlying152 h).trans (by kernel_rfl)
 match cs, hl with
 | [c0, c1, c2, c3, c4, c5, c6], _ =>
  obtain ⟨_, _, g1⟩ := fa 0 150 0 5 Tryz.underlying152 h
  obtain ⟨n0, rfl, w0⟩ := fi c0 0 0 Tryz.underlying150 g1
  obtain ⟨n1, rfl, w1⟩ := fi c1 1 1 Tryz.underlying150 g1
  obtain ⟨n2, rfl, w2⟩ := fi c2 2 2 Tryz.underlying150 g1
  obtain ⟨n3, rfl, w3⟩ := fi c3 3 3 Tryz.underlying150 g1
  obtain ⟨_, _, g6⟩ := fa 4 4 4 1 Tryz.underlying150 g1
  obtain ⟨n4, rfl⟩ := bool_of (v := c4) Tryz.underlying4 g6
  obtain ⟨n5, rfl, w5⟩ := fi c5 1 5 Tryz.underlying152 h
  obtain ⟨n6, rfl, w6⟩ := fi c6 2 6 Tryz.underlying152 h
  exact ⟨⟨⟨n0, n1, n2, n3, n4⟩, n5, n6⟩, rfl, ⟨bounds_i64 w0, bounds_i64 w1, bounds_i64 w2, bounds_i64 w3, bounds_i64 w5, bounds_i64 w6⟩⟩
def wfApiFee (x : ApiFee) : Prop := I64 x.Producer ∧ I64 x.Material ∧ I64 x.Amount
set_option maxRecDepth 100000 in
theorem el_ApiFee (h : DataW.trod enc Tryz.prog w base spare held fuel 144 cs = some x) : ∃ a : ApiFee, cs = encApiFee a ∧ wfApiFee a := by
 have hl : cs.length = 3 := (struct_len Tryz.underlying144 h).trans (by kernel_rfl)
 match cs, hl with
 | [c0, c1, c2], _ =>
  obtain ⟨n0, rfl, w0⟩ := fi c0 0 0 Tryz.underlying144 h
  obtain ⟨n1, rfl, w1⟩ := fi c1 1 1 Tryz.underlying144 h
  obtain ⟨n2, rfl, w2⟩ := fi c2 2 2 Tryz.underlying144 h
  exact ⟨⟨n0, n1, n2⟩, rfl, ⟨bounds_i64 w0, bounds_i64 w1, bounds_i64 w2⟩⟩
def wfApiItem (x : ApiItem) : Prop := I64 x.Kind ∧ I64 x.Ref ∧ I64 x.Count ∧ I64 x.Price ∧ I64 x.Amount
set_option maxRecDepth 100000 in
theorem el_ApiItem (h : DataW.trod enc Tryz.prog w base spare held fuel 100 cs = some x) : ∃ a : ApiItem, cs = encApiItem a ∧ wfApiItem a := by
 have hl : cs.length = 5 := (struct_len Tryz.underlying100 h).trans (by kernel_rfl)
 match cs, hl with
 | [c0, c1, c2, c3, c4], _ =>
  obtain ⟨n0, rfl, w0⟩ := fi c0 0 0 Tryz.underlying100 h
  obtain ⟨n1, rfl, w1⟩ := fi c1 1 1 Tryz.underlying100 h
  obtain ⟨n2, rfl, w2⟩ := fi c2 2 2 Tryz.underlying100 h
  obtain ⟨n3, rfl, w3⟩ := fi c3 3 3 Tryz.underlying100 h
  obtain ⟨n4, rfl, w4⟩ := fi c4 4 4 Tryz.underlying100 h
  exact ⟨⟨n0, n1, n2, n3, n4⟩, rfl, ⟨bounds_i64 w0, bounds_i64 w1, bounds_i64 w2, bounds_i64 w3, bounds_i64 w4⟩⟩
def wfApiBill (w : World) (x : ApiBill) (q1 : Hdr) : Prop := ((RdE w 5 encApiItem q1.1 x.Items ∧ SW q1.1 q1.2.1 q1.2.2 (List.length x.Items))) ∧ (I64 x.ID ∧ I64 x.Household ∧ I64 x.When.From ∧ I64 x.When.To ∧ I64 x.Total ∧ (∀ y ∈ x.Items, wfApiItem y))
set_option maxRecDepth 100000 in
theorem el_ApiBill (h : DataW.trod enc Tryz.prog w base spare held fuel 52 cs = some x) : ∃ (a : ApiBill) (q1 : Hdr), cs = encApiBill a q1 ∧ wfApiBill w a q1 := by
 have hl : cs.length = 6 := (struct_len Tryz.underlying52 h).trans (by kernel_rfl)
 match cs, hl with
 | [c0, c1, c2, c3, c4, c5], _ =>
  obtain ⟨n0, rfl, w0⟩ := fi c0 0 0 Tryz.underlying52 h
  obtain ⟨n1, rfl, w1⟩ := fi c1 1 1 Tryz.underlying52 h
  obtain ⟨_, _, g3⟩ := fa 2 49 2 2 Tryz.underlying52 h
  obtain ⟨n2, rfl, w2⟩ := fi c2 0 0 Tryz.underlying49 g3
  obtain ⟨n3, rfl, w3⟩ := fi c3 1 1 Tryz.underlying49 g3
  obtain ⟨_, _, g6⟩ := fa 3 50 4 1 Tryz.underlying52 h
  obtain ⟨A4, m4, d4, x4, e4, z4, r4, f4⟩ := open_sl (ec := encApiItem) (wf := wfApiItem) (k := 5) Tryz.underlying50 (by kernel_rfl) (by kernel_rfl) (fun _ _ _ hh => el_ApiItem hh) g6
  obtain rfl : c4 = .slice A4 m4 d4 := by simpa using e4
  obtain ⟨n5, rfl, w5⟩ := fi c5 4 5 Tryz.underlying52 h
  exact ⟨⟨n0, n1, ⟨n2, n3⟩, x4, n5⟩, (A4, m4, d4), rfl, ⟨r4, z4⟩, ⟨bounds_i64 w0, bounds_i64 w1, bounds_i64 w2, bounds_i64 w3, bounds_i64 w5, f4⟩⟩
def wfApiLine (x : ApiLine) : Prop := I64 x.Account ∧ I64 x.Amount
set_option maxRecDepth 100000 in
theorem el_ApiLine (h : DataW.trod enc Tryz.prog w base spare held fuel 190 cs = some x) : ∃ a : ApiLine, cs = encApiLine a ∧ wfApiLine a := by
 have hl : cs.length = 2 := (struct_len Tryz.underlying190 h).trans (by kernel_rfl)
 match cs, hl with
 | [c0, c1], _ =>
  obtain ⟨n0, rfl, w0⟩ := fi c0 0 0 Tryz.underlying190 h
  obtain ⟨n1, rfl, w1⟩ := fi c1 1 1 Tryz.underlying190 h
  exact ⟨⟨n0, n1⟩, rfl, ⟨bounds_i64 w0, bounds_i64 w1⟩⟩
def wfApiPosting (w : World) (x : ApiPosting) (q1 : Hdr) : Prop := ((RdE w 2 encApiLine q1.1 x.Lines ∧ SW q1.1 q1.2.1 q1.2.2 (List.length x.Lines))) ∧ (I64 x.ID ∧ I64 x.At ∧ (∀ y ∈ x.Lines, wfApiLine y))
set_option maxRecDepth 100000 in
theorem el_ApiPosting (h : DataW.trod enc Tryz.prog w base spare held fuel 148 cs = some x) : ∃ (a : ApiPosting) (q1 : Hdr), cs = encApiPosting a q1 ∧ wfApiPosting w a q1 := by
 have hl : cs.length = 3 := (struct_len Tryz.underlying148 h).trans (by kernel_rfl)
 match cs, hl with
 | [c0, c1, c2], _ =>
  obtain ⟨n0, rfl, w0⟩ := fi c0 0 0 Tryz.underlying148 h
  obtain ⟨n1, rfl, w1⟩ := fi c1 1 1 Tryz.underlying148 h
  obtain ⟨_, _, g3⟩ := fa 2 146 2 1 Tryz.underlying148 h
  obtain ⟨A2, m2, d2, x2, e2, z2, r2, f2⟩ := open_sl (ec := encApiLine) (wf := wfApiLine) (k := 2) Tryz.underlying146 (by kernel_rfl) (by kernel_rfl) (fun _ _ _ hh => el_ApiLine hh) g3
  obtain rfl : c2 = .slice A2 m2 d2 := by simpa using e2
  exact ⟨⟨n0, n1, x2⟩, (A2, m2, d2), rfl, ⟨r2, z2⟩, ⟨bounds_i64 w0, bounds_i64 w1, f2⟩⟩
end
end Go.Proofs.YtbnimhmoffchdaaGreatDoor
