/- Models of functions, and that the code follows them. Written by deco.py. -/
import Derived.Test.YtljogldcejcikaaGreatZCmp5
namespace Go.Proofs.YtljogldcejcikaaGreat
open Go.RowKit

structure ComplaintMatter where
 account_ : ApiAccount
 index_ : Int
 version_ : ApiTariff
 item_ : ApiItem
 rest_ : Int
deriving Inhabited
structure ComplaintNever where
deriving DecidableEq, Inhabited
def encComplaintNever (_x : ComplaintNever) : List Value := []
def valComplaintNever (_x : ComplaintNever) : Value := .agg #[]
theorem encComplaintNever_len (x : ComplaintNever) : (encComplaintNever x).length = 0 := rfl
theorem encComplaintNever_one (x : ComplaintNever) : (encComplaintNever x).all Value.oneCell' = true := rfl
structure ComplaintTwice where
deriving DecidableEq, Inhabited
def encComplaintTwice (_x : ComplaintTwice) : List Value := []
def valComplaintTwice (_x : ComplaintTwice) : Value := .agg #[]
theorem encComplaintTwice_len (x : ComplaintTwice) : (encComplaintTwice x).length = 0 := rfl
theorem encComplaintTwice_one (x : ComplaintTwice) : (encComplaintTwice x).all Value.oneCell' = true := rfl
structure ComplaintWeight where
deriving DecidableEq, Inhabited
def encComplaintWeight (_x : ComplaintWeight) : List Value := []
def valComplaintWeight (_x : ComplaintWeight) : Value := .agg #[]
theorem encComplaintWeight_len (x : ComplaintWeight) : (encComplaintWeight x).length = 0 := rfl
theorem encComplaintWeight_one (x : ComplaintWeight) : (encComplaintWeight x).all Value.oneCell' = true := rfl
/-- complaint.gathered$1 -/
def m_complaint_gathered_1 (_N : Nat) (p0 : ApiEmptying) (q0 : ApiItem) : Option (Bool) :=
 some ((decide (p0.ID = q0.Ref)))
set_option maxRecDepth 20000 in
theorem m_complaint_gathered_1_ok (N : Nat) (w0 : World) (p0 : ApiEmptying) (q0 : ApiItem) (b_q0 : Nat) (hb_q0 : Blk w0 b_q0 66 [.int .i64 q0.Kind, .int .i64 q0.Ref, .int .i64 q0.Count, .int .i64 q0.Price, .int .i64 q0.Amount]) (r : Bool) (hr : m_complaint_gathered_1 N p0 q0 = some r) :
  Calls Tryz.prog 32 [.agg #[.int .i64 p0.ID, .int .i64 p0.Container, .int .i64 p0.Vehicle, .int .i64 p0.At, .int .i64 p0.Mass.Lo, .int .i64 p0.Mass.Hi, .bool p0.Void], .pointer (some ⟨b_q0, 0, none⟩)].toArray w0 fun x w1 => ∃ u, x = .returned ((fun (r : Bool) (_u : Unit) => .bool r) r u) ∧ Hs w0 ((fun (_r : Bool) (_u : Unit) => []) r u) w1 := by
 refine calls_cm (n := 9) (R := fun r x w1 => ∃ u, x = .returned ((fun (r : Bool) (_u : Unit) => .bool r) r u) ∧ Hs w0 ((fun (_r : Bool) (_u : Unit) => []) r u) w1) Tryz.func32 rfl rfl (Nat.le_of_ble_eq_true rfl) ?_ r hr
 unfold m_complaint_gathered_1
 refine cq ?_
 refine cr ?_
 refine lm_box 2 [.int .i64 _, .int .i64 _, .int .i64 _, .int .i64 _, .int .i64 _, .int .i64 _, .bool _] (by kernel_rfl) rfl ?_
 intro b5
 refine lv 3 (by kernel_rfl) (fun w1 c1 => (oa (v := .bool false) rfl)) ?_
 refine ln ?_
 refine xn ?_
 refine cq ?_
 refine cr ?_
 refine lv 4 (by kernel_rfl) (fun w1 c1 => (oF (m := 0) (k := 0) rfl (by kernel_rfl) rfl)) ?_
 refine lv 5 (by kernel_rfl) (fun w1 c1 => (ol rfl (by kernel_rfl) (c1.cell 0 (u := .int .i64 _) rfl rfl))) ?_
 refine lv 6 (by kernel_rfl) (fun w1 c1 => (oF (m := 1) (k := 1) rfl (by kernel_rfl) rfl)) ?_
 refine lv 7 (by kernel_rfl) (fun w1 c1 => (ol rfl (by kernel_rfl) (c1.ocell (hb_q0.at_ 1 (u := .int .i64 _) rfl)))) ?_
 refine lv 8 (by kernel_rfl) (fun w1 c1 => (op_eql rfl rfl)) ?_
 refine lv 3 (by kernel_rfl) (fun w1 c1 => (oa (v := .bool _) rfl)) ?_
 refine ln ?_
 refine xn ?_
 refine cm_ret ?_
 exact xm_retT rfl (by kernel_rfl) (show _ = Value.bool _ from rfl) fun w1 c1 => ⟨(), rfl, hsub [] (by kernel_rfl) rfl w1 c1⟩
/-- slices.IndexFunc -/
def m_slices_IndexFunc_complaint_gathered_1 (N : Nat) (p0 : (List ApiEmptying)) (p1c0 : ApiItem) : Option (Int) :=
 (andThen
  (loopM (fun (s47 : Int) =>
   (if s47 < (List.length p0 : Int) then
    ck ((0 : Int) ≤ s47 ∧ s47 < (List.length p0 : Int)) (
     Option.bind (m_complaint_gathered_1 N (ix p0 s47) p1c0) fun r51 => (if r51 = true then
      some (.done (.done (s47)))
     else
      ck (I64 (s47 + (1 : Int))) (
       some (.next (s47 + (1 : Int))))))
   else
    some (.done (.next ())))) N (0 : Int))
 fun (_s29 : Unit) =>
  some ((-1 : Int)))
set_option maxRecDepth 20000 in
theorem m_slices_IndexFunc_complaint_gathered_1_ok (N : Nat) (w0 : World) (p0 : (List ApiEmptying)) (p1c0 : ApiItem) (A_p0 : Option Addr) (n_p0 c_p0 : Nat) (b_p1c0 : Nat) (hr_p0 : RdE w0 7 encApiEmptying A_p0 p0) (hz_p0 : SW A_p0 n_p0 c_p0 (List.length p0)) (hb_p1c0 : Blk w0 b_p1c0 66 [.int .i64 p1c0.Kind, .int .i64 p1c0.Ref, .int .i64 p1c0.Count, .int .i64 p1c0.Price, .int .i64 p1c0.Amount]) (r : Int) (hr : m_slices_IndexFunc_complaint_gathered_1 N p0 p1c0 = some r) :
  Calls Tryz.prog 31 [.slice A_p0 n_p0 c_p0, .func (.func 32) #[] #[.pointer (some ⟨b_p1c0, 0, none⟩)]].toArray w0 fun x w1 => ∃ u, x = .returned ((fun (r : Int) (_u : Unit) => .int .i64 r) r u) ∧ Hs w0 ((fun (_r : Int) (_u : Unit) => []) r u) w1 := by
 refine calls_cm (n := 19) (R := fun r x w1 => ∃ u, x = .returned ((fun (r : Int) (_u : Unit) => .int .i64 r) r u) ∧ Hs w0 ((fun (_r : Int) (_u : Unit) => []) r u) w1) Tryz.func31 rfl rfl (Nat.le_of_ble_eq_true rfl) ?_ r hr
 unfold m_slices_IndexFunc_complaint_gathered_1
 refine cq ?_
 refine cr ?_
 refine lv 4 (by kernel_rfl) (fun w1 c1 => (oa (v := .int .i64 _) rfl)) ?_
 refine ln ?_
 refine xn ?_
 refine cm_join (σ := Unit) (ξ := Unit) (fun s29 u30 => []) (fun s29 u30 => []) ?_ ?_
 ·skip
  refine cq ?_
  refine cr ?_
  refine lv 6 (by kernel_rfl) (fun w1 c1 => (om (v := .slice _ _ _) rfl)) ?_
  refine lv 7 (by kernel_rfl) (fun w1 c1 => (op_lenN rfl (by kernel_rfl) hz_p0.2.2)) ?_
  refine lv 8 (by kernel_rfl) (fun w1 c1 => (om (v := .int .i64 _) rfl)) ?_
  refine ln ?_
  refine xn ?_
  refine cm_block ?_
  refine cm_loop (σ := Int) (ξ := Unit) (fun s47 u48 => [(0, .slice A_p0 n_p0 c_p0), (1, .func (.func 32) #[] #[.pointer (some ⟨b_p1c0, 0, none⟩)]), (7, .int .i64 (List.length p0 : Int)), (8, .int .i64 s47)]) (fun s47 u48 => []) () ?_ ?_ ?_
  ·exact (sc (by kernel_rfl) rfl (sc (by kernel_rfl) rfl (sc (by kernel_rfl) rfl (sc (by kernel_rfl) rfl sub_nil))))
  ·exact hsub [] (by kernel_rfl) rfl
  intro s47 u48
  refine cq ?_
  refine cr ?_
  refine lv 9 (by kernel_rfl) (fun w1 c1 => (op_lss rfl rfl)) ?_
  refine ln ?_
  refine xn ?_
  refine cq ?_
  refine cm_cond (by kernel_rfl) rfl (fun h49 => ?_) (fun h49 => ?_)
  ·skip
   refine cm_skip ?_
   refine xn ?_
   refine cq ?_
   refine cm_block ?_
   refine cq ?_
   refine cr ?_
   refine lv 10 (by kernel_rfl) (fun w1 c1 => (om (v := .int .i64 _) rfl)) ?_
   refine lv 5 (by kernel_rfl) (fun w1 c1 => (oa (v := .int .i64 _) rfl)) ?_
   refine ln ?_
   refine xn ?_
   refine cq ?_
   refine cr ?_
   refine lv 11 (by kernel_rfl) (fun w1 c1 => (om (v := .func _ _ _) rfl)) ?_
   refine lv 12 (by kernel_rfl) (fun w1 c1 => (om (v := .slice _ _ _) rfl)) ?_
   refine lv 13 (by kernel_rfl) (fun w1 c1 => (om (v := .int .i64 _) rfl)) ?_
   refine lm_ck (fun h50 => ?_)
   refine lv 14 (by kernel_rfl) (fun w1 c1 => (op_indexA 7 rfl rfl (by kernel_rfl) ((hr_p0.old c1).addr h50.1 h50.2) hz_p0.2.2 h50.1 h50.2)) ?_
   refine lv 15 (by kernel_rfl) (fun w1 c1 => (op_loadR [.int .i64 ((ix p0 s47).ID), .int .i64 ((ix p0 s47).Container), .int .i64 ((ix p0 s47).Vehicle), .int .i64 ((ix p0 s47).At), .int .i64 ((ix p0 s47).Mass.Lo), .int .i64 ((ix p0 s47).Mass.Hi), .bool ((ix p0 s47).Void)] rfl (by kernel_rfl) ((hr_p0.old c1).row h50.1 h50.2))) ?_
   refine lm_call 16 (V := (fun (r : Bool) (_u : Unit) => .bool r)) (HR := (fun (_r : Bool) (_u : Unit) => [])) (by kernel_rfl) (fun w1 => op_callv rfl (by kernel_rfl)) (fun r1 hr1 w1 c1 => m_complaint_gathered_1_ok N w1 (ix p0 s47) p1c0 b_p1c0 (c1.oblk hb_p1c0) r1 hr1) ?_
   intro r51 u52
   refine ln ?_
   refine xn ?_
   refine cm_condB (by kernel_rfl) rfl (fun h53 => ?_) (fun h53 => ?_)
   ·skip
    refine cq ?_
    refine cr ?_
    refine lv 17 (by kernel_rfl) (fun w1 c1 => (om (v := .int .i64 _) rfl)) ?_
    refine lv 4 (by kernel_rfl) (fun w1 c1 => (oa (v := .int .i64 _) rfl)) ?_
    refine ln ?_
    refine xn ?_
    refine cm_ret ?_
    refine xm_inR ?_
    refine xm_thenR ?_
    refine xm_lret ?_
    refine xm_inR ?_
    refine xm_lret ?_
    exact xm_retT rfl (by kernel_rfl) (show _ = Value.int .i64 _ from rfl) fun w1 c1 => ⟨(), rfl, hsub [] (by kernel_rfl) rfl w1 c1⟩
   ·skip
    refine cm_skip ?_
    refine xm_inN ?_
    refine xn ?_
    refine cr ?_
    refine lm_ck (fun h54 => ?_)
    refine lv 18 (by kernel_rfl) (fun w1 c1 => (op_add rfl rfl h54)) ?_
    refine lv 8 (by kernel_rfl) (fun w1 c1 => (om (v := .int .i64 _) rfl)) ?_
    refine ln ?_
    exact xm_lnext () (sc (by kernel_rfl) rfl (sc (by kernel_rfl) rfl (sc (by kernel_rfl) rfl (sc (by kernel_rfl) rfl sub_nil)))) (hsub [] (by kernel_rfl) rfl)
  ·skip
   refine cm_exit ?_
   refine xm_thenE ?_
   refine xm_lexit ?_
   refine xm_here ?_
   exact xm_lnext () sub_nil (hsub [] (by kernel_rfl) rfl)
 intro s29 u30
 refine cq ?_
 refine cr ?_
 refine lv 4 (by kernel_rfl) (fun w1 c1 => (oa (v := .int .i64 _) rfl)) ?_
 refine ln ?_
 refine xn ?_
 refine cm_ret ?_
 exact xm_retT rfl (by kernel_rfl) (show _ = Value.int .i64 _ from rfl) fun w1 c1 => ⟨(), rfl, hsub [] (by kernel_rfl) rfl w1 c1⟩
/-- complaint.gathered -/
def m_complaint_gathered (N : Nat) (p0 : ApiAccount) (p1 : ApiBill) (p2 : ApiComplaint) : Option ((List ApiHousehold) × (List ApiContainer) × (List ApiAssign) × (List ApiEmptying) × (List ApiTariff) × Int × Int × Int × Int × Int × Int × Int × Int × Int × Int × Int × Int × Int × Bool) :=
 Option.bind (m_complaint_disputed N p1 p2) fun r41 => callIf ((!(!r41.2)) = true) (m_complaint_emptied N p1 r41.1.Ref) fun r44 => (if ((!r41.2) || (!r44)) = true then
  some ((([] : List ApiHousehold), ([] : List ApiContainer), ([] : List ApiAssign), ([] : List ApiEmptying), ([] : List ApiTariff), (0 : Int), (0 : Int), (0 : Int), (0 : Int), (0 : Int), (0 : Int), (0 : Int), (0 : Int), (0 : Int), (0 : Int), (0 : Int), (0 : Int), (0 : Int), false))
 else
  Option.bind (m_slices_IndexFunc_complaint_gathered_1 N p0.Emptyings r41.1) fun r58 => (if r58 < 0 then
   some ((([] : List ApiHousehold), ([] : List ApiContainer), ([] : List ApiAssign), ([] : List ApiEmptying), ([] : List ApiTariff), (0 : Int), (0 : Int), (0 : Int), (0 : Int), (0 : Int), (0 : Int), (0 : Int), (0 : Int), (0 : Int), (0 : Int), (0 : Int), (0 : Int), (0 : Int), false))
  else
   ck ((0 : Int) ≤ r58 ∧ r58 < (List.length p0.Emptyings : Int)) (
    ck (I64 ((ix p0.Emptyings r58).At)) (
     Option.bind (m_tariff_At N p0.Tariffs (Int.tdiv ((ix p0.Emptyings r58).At) 86400)) fun r73 => (if r73.2 ≠ 0 then
      some ((([] : List ApiHousehold), ([] : List ApiContainer), ([] : List ApiAssign), ([] : List ApiEmptying), ([] : List ApiTariff), (0 : Int), (0 : Int), (0 : Int), (0 : Int), (0 : Int), (0 : Int), (0 : Int), (0 : Int), (0 : Int), (0 : Int), (0 : Int), (0 : Int), (0 : Int), false))
     else
      Option.bind (m_complaint_Rest N p1 r41.1.Ref) fun r86 => ck ((0 : Int) ≤ r73.1 ∧ r73.1 < (List.length p0.Tariffs : Int)) (
       some ((p0.Households, p0.Containers, p0.Assigns, p0.Emptyings, p0.Tariffs, p0.Gap, r58, (ix p0.Tariffs r73.1).From, (ix p0.Tariffs r73.1).Base, (ix p0.Tariffs r73.1).Empty, (ix p0.Tariffs r73.1).Kilo, (ix p0.Tariffs r73.1).Free, r41.1.Kind, r41.1.Ref, r41.1.Count, r41.1.Price, r41.1.Amount, r86.1, true))))))))
set_option maxHeartbeats 2000000 in
set_option maxRecDepth 20000 in
theorem m_complaint_gathered_ok (N : Nat) (w0 w : World) (F : List HE) (p0 : ApiAccount) (p1 : ApiBill) (p2 : ApiComplaint) (A_p01 : Option Addr) (n_p01 : Nat) (c_p01 : Nat) (A_p02 : Option Addr) (n_p02 : Nat) (c_p02 : Nat) (A_p03 : Option Addr) (n_p03 : Nat) (c_p03 : Nat) (A_p04 : Option Addr) (n_p04 : Nat) (c_p04 : Nat) (A_p05 : Option Addr) (n_p05 : Nat) (c_p05 : Nat) (A_p11 : Option Addr) (n_p11 : Nat) (c_p11 : Nat) (hr_p01 : RdE w0 2 encApiHousehold A_p01 p0.Households) (hz_p01 : SW A_p01 n_p01 c_p01 (List.length p0.Households)) (hr_p02 : RdE w0 5 encApiContainer A_p02 p0.Containers) (hz_p02 : SW A_p02 n_p02 c_p02 (List.length p0.Containers)) (hr_p03 : RdE w0 4 encApiAssign A_p03 p0.Assigns) (hz_p03 : SW A_p03 n_p03 c_p03 (List.length p0.Assigns)) (hr_p04 : RdE w0 7 encApiEmptying A_p04 p0.Emptyings) (hz_p04 : SW A_p04 n_p04 c_p04 (List.length p0.Emptyings)) (hr_p05 : RdE w0 5 encApiTariff A_p05 p0.Tariffs) (hz_p05 : SW A_p05 n_p05 c_p05 (List.length p0.Tariffs)) (hr_p11 : RdE w0 5 encApiItem A_p11 p1.Items) (hz_p11 : SW A_p11 n_p11 c_p11 (List.length p1.Items)) (hw : Hs w0 ([] ++ [packE w0.heap.size F]) w) (r : (List ApiHousehold) × (List ApiContainer) × (List ApiAssign) × (List ApiEmptying) × (List ApiTariff) × Int × Int × Int × Int × Int × Int × Int × Int × Int × Int × Int × Int × Int × Bool) (hr : m_complaint_gathered N p0 p1 p2 = some r) :
  Calls Tryz.prog 14 [.agg #[.slice A_p01 n_p01 c_p01, .slice A_p02 n_p02 c_p02, .slice A_p03 n_p03 c_p03, .slice A_p04 n_p04 c_p04, .slice A_p05 n_p05 c_p05, .int .i64 p0.Gap], .agg #[.int .i64 p1.ID, .int .i64 p1.Household, .int .i64 p1.When.From, .int .i64 p1.When.To, .slice A_p11 n_p11 c_p11, .int .i64 p1.Total], .agg #[.int .i64 p2.Bill, .int .i64 p2.Item, .int .i64 p2.At, .int .i64 p2.Kind]].toArray w fun x w1 => ∃ u, x = .returned ((fun (r : (List ApiHousehold) × (List ApiContainer) × (List ApiAssign) × (List ApiEmptying) × (List ApiTariff) × Int × Int × Int × Int × Int × Int × Int × Int × Int × Int × Int × Int × Int × Bool) (u : (Option Addr) × Nat × Nat × (Option Addr) × Nat × Nat × (Option Addr) × Nat × Nat × (Option Addr) × Nat × Nat × (Option Addr) × Nat × Nat) => (.tuple #[.agg #[.slice u.1 u.2.1 u.2.2.1, .slice u.2.2.2.1 u.2.2.2.2.1 u.2.2.2.2.2.1, .slice u.2.2.2.2.2.2.1 u.2.2.2.2.2.2.2.1 u.2.2.2.2.2.2.2.2.1, .slice u.2.2.2.2.2.2.2.2.2.1 u.2.2.2.2.2.2.2.2.2.2.1 u.2.2.2.2.2.2.2.2.2.2.2.1, .slice u.2.2.2.2.2.2.2.2.2.2.2.2.1 u.2.2.2.2.2.2.2.2.2.2.2.2.2.1 u.2.2.2.2.2.2.2.2.2.2.2.2.2.2, .int .i64 r.2.2.2.2.2.1, .int .i64 r.2.2.2.2.2.2.1, .int .i64 r.2.2.2.2.2.2.2.1, .int .i64 r.2.2.2.2.2.2.2.2.1, .int .i64 r.2.2.2.2.2.2.2.2.2.1, .int .i64 r.2.2.2.2.2.2.2.2.2.2.1, .int .i64 r.2.2.2.2.2.2.2.2.2.2.2.1, .int .i64 r.2.2.2.2.2.2.2.2.2.2.2.2.1, .int .i64 r.2.2.2.2.2.2.2.2.2.2.2.2.2.1, .int .i64 r.2.2.2.2.2.2.2.2.2.2.2.2.2.2.1, .int .i64 r.2.2.2.2.2.2.2.2.2.2.2.2.2.2.2.1, .int .i64 r.2.2.2.2.2.2.2.2.2.2.2.2.2.2.2.2.1, .int .i64 r.2.2.2.2.2.2.2.2.2.2.2.2.2.2.2.2.2.1], .bool r.2.2.2.2.2.2.2.2.2.2.2.2.2.2.2.2.2.2] : Value)) r u) ∧ Hs w0 ((fun (r : (List ApiHousehold) × (List ApiContainer) × (List ApiAssign) × (List ApiEmptying) × (List ApiTariff) × Int × Int × Int × Int × Int × Int × Int × Int × Int × Int × Int × Int × Int × Bool) (u : (Option Addr) × Nat × Nat × (Option Addr) × Nat × Nat × (Option Addr) × Nat × Nat × (Option Addr) × Nat × Nat × (Option Addr) × Nat × Nat) => [roE (RdE w0 2 encApiHousehold u.1 r.1 ∧ SW u.1 u.2.1 u.2.2.1 (List.length r.1)), roE (RdE w0 5 encApiContainer u.2.2.2.1 r.2.1 ∧ SW u.2.2.2.1 u.2.2.2.2.1 u.2.2.2.2.2.1 (List.length r.2.1)), roE (RdE w0 4 encApiAssign u.2.2.2.2.2.2.1 r.2.2.1 ∧ SW u.2.2.2.2.2.2.1 u.2.2.2.2.2.2.2.1 u.2.2.2.2.2.2.2.2.1 (List.length r.2.2.1)), roE (RdE w0 7 encApiEmptying u.2.2.2.2.2.2.2.2.2.1 r.2.2.2.1 ∧ SW u.2.2.2.2.2.2.2.2.2.1 u.2.2.2.2.2.2.2.2.2.2.1 u.2.2.2.2.2.2.2.2.2.2.2.1 (List.length r.2.2.2.1)), roE (RdE w0 5 encApiTariff u.2.2.2.2.2.2.2.2.2.2.2.2.1 r.2.2.2.2.1 ∧ SW u.2.2.2.2.2.2.2.2.2.2.2.2.1 u.2.2.2.2.2.2.2.2.2.2.2.2.2.1 u.2.2.2.2.2.2.2.2.2.2.2.2.2.2 (List.length r.2.2.2.2.1))]) r u ++ [packE w0.heap.size F]) w1 := by
 refine calls_cmH (n := 71) (R := fun r x w1 => ∃ u, x = .returned ((fun (r : (List ApiHousehold) × (List ApiContainer) × (List ApiAssign) × (List ApiEmptying) × (List ApiTariff) × Int × Int × Int × Int × Int × Int × Int × Int × Int × Int × Int × Int × Int × Bool) (u : (Option Addr) × Nat × Nat × (Option Addr) × Nat × Nat × (Option Addr) × Nat × Nat × (Option Addr) × Nat × Nat × (Option Addr) × Nat × Nat) => (.tuple #[.agg #[.slice u.1 u.2.1 u.2.2.1, .slice u.2.2.2.1 u.2.2.2.2.1 u.2.2.2.2.2.1, .slice u.2.2.2.2.2.2.1 u.2.2.2.2.2.2.2.1 u.2.2.2.2.2.2.2.2.1, .slice u.2.2.2.2.2.2.2.2.2.1 u.2.2.2.2.2.2.2.2.2.2.1 u.2.2.2.2.2.2.2.2.2.2.2.1, .slice u.2.2.2.2.2.2.2.2.2.2.2.2.1 u.2.2.2.2.2.2.2.2.2.2.2.2.2.1 u.2.2.2.2.2.2.2.2.2.2.2.2.2.2, .int .i64 r.2.2.2.2.2.1, .int .i64 r.2.2.2.2.2.2.1, .int .i64 r.2.2.2.2.2.2.2.1, .int .i64 r.2.2.2.2.2.2.2.2.1, .int .i64 r.2.2.2.2.2.2.2.2.2.1, .int .i64 r.2.2.2.2.2.2.2.2.2.2.1, .int .i64 r.2.2.2.2.2.2.2.2.2.2.2.1, .int .i64 r.2.2.2.2.2.2.2.2.2.2.2.2.1, .int .i64 r.2.2.2.2.2.2.2.2.2.2.2.2.2.1, .int .i64 r.2.2.2.2.2.2.2.2.2.2.2.2.2.2.1, .int .i64 r.2.2.2.2.2.2.2.2.2.2.2.2.2.2.2.1, .int .i64 r.2.2.2.2.2.2.2.2.2.2.2.2.2.2.2.2.1, .int .i64 r.2.2.2.2.2.2.2.2.2.2.2.2.2.2.2.2.2.1], .bool r.2.2.2.2.2.2.2.2.2.2.2.2.2.2.2.2.2.2] : Value)) r u) ∧ Hs w0 ((fun (r : (List ApiHousehold) × (List ApiContainer) × (List ApiAssign) × (List ApiEmptying) × (List ApiTariff) × Int × Int × Int × Int × Int × Int × Int × Int × Int × Int × Int × Int × Int × Bool) (u : (Option Addr) × Nat × Nat × (Option Addr) × Nat × Nat × (Option Addr) × Nat × Nat × (Option Addr) × Nat × Nat × (Option Addr) × Nat × Nat) => [roE (RdE w0 2 encApiHousehold u.1 r.1 ∧ SW u.1 u.2.1 u.2.2.1 (List.length r.1)), roE (RdE w0 5 encApiContainer u.2.2.2.1 r.2.1 ∧ SW u.2.2.2.1 u.2.2.2.2.1 u.2.2.2.2.2.1 (List.length r.2.1)), roE (RdE w0 4 encApiAssign u.2.2.2.2.2.2.1 r.2.2.1 ∧ SW u.2.2.2.2.2.2.1 u.2.2.2.2.2.2.2.1 u.2.2.2.2.2.2.2.2.1 (List.length r.2.2.1)), roE (RdE w0 7 encApiEmptying u.2.2.2.2.2.2.2.2.2.1 r.2.2.2.1 ∧ SW u.2.2.2.2.2.2.2.2.2.1 u.2.2.2.2.2.2.2.2.2.2.1 u.2.2.2.2.2.2.2.2.2.2.2.1 (List.length r.2.2.2.1)), roE (RdE w0 5 encApiTariff u.2.2.2.2.2.2.2.2.2.2.2.2.1 r.2.2.2.2.1 ∧ SW u.2.2.2.2.2.2.2.2.2.2.2.2.1 u.2.2.2.2.2.2.2.2.2.2.2.2.2.1 u.2.2.2.2.2.2.2.2.2.2.2.2.2.2 (List.length r.2.2.2.2.1))]) r u ++ [packE w0.heap.size F]) w1) Tryz.func14 rfl rfl (Nat.le_of_ble_eq_true rfl) ?_ hw r hr
 unfold m_complaint_gathered
 refine cq ?_
 refine cr ?_
 refine lm_box 3 [.slice _ _ _, .slice _ _ _, .slice _ _ _, .slice _ _ _, .slice _ _ _, .int .i64 _] (by kernel_rfl) rfl ?_
 intro b37
 refine lm_box 4 [.int .i64 _, .int .i64 _, .int .i64 _, .int .i64 _, .slice _ _ _, .int .i64 _] (by kernel_rfl) rfl ?_
 intro b38
 refine lm_box 5 [.int .i64 _, .int .i64 _, .int .i64 _, .int .i64 _] (by kernel_rfl) rfl ?_
 intro b39
 refine lm_alloc 6 [.slice none 0 0, .slice none 0 0, .slice none 0 0, .slice none 0 0, .slice none 0 0, .int .i64 0, .int .i64 0, .int .i64 0, .int .i64 0, .int .i64 0, .int .i64 0, .int .i64 0, .int .i64 0, .int .i64 0, .int .i64 0, .int .i64 0, .int .i64 0, .int .i64 0] (v := .agg #[.slice none 0 0, .slice none 0 0, .slice none 0 0, .slice none 0 0, .slice none 0 0, .int .i64 0, .int .i64 0, .int .i64 0, .int .i64 0, .int .i64 0, .int .i64 0, .int .i64 0, .int .i64 0, .int .i64 0, .int .i64 0, .int .i64 0, .int .i64 0, .int .i64 0]) (by kernel_rfl) (by kernel_rfl) rfl ?_
 intro b40
 refine lv 7 (by kernel_rfl) (fun w1 c1 => (oa (v := .bool false) rfl)) ?_
 refine ln ?_
 refine xn ?_
 refine cq ?_
 refine cr ?_
 refine lv 16 (by kernel_rfl) (fun w1 c1 => (op_loadR [.int .i64 _, .int .i64 _, .int .i64 _, .int .i64 _, .slice _ _ _, .int .i64 _] rfl (by kernel_rfl) (c1.cells 2 rfl rfl))) ?_
 refine lv 17 (by kernel_rfl) (fun w1 c1 => (op_loadR [.int .i64 _, .int .i64 _, .int .i64 _, .int .i64 _] rfl (by kernel_rfl) (c1.cells 1 rfl rfl))) ?_
 refine lm_call 18 (V := (fun (r : ApiItem × Bool) (_u : Unit) => .tuple #[.agg #[.int .i64 r.1.Kind, .int .i64 r.1.Ref, .int .i64 r.1.Count, .int .i64 r.1.Price, .int .i64 r.1.Amount], .bool r.2])) (HR := (fun (_r : ApiItem × Bool) (_u : Unit) => [])) (by kernel_rfl) (fun w1 => op_call (by kernel_rfl)) (fun r1 hr1 w1 c1 => m_complaint_disputed_ok N w1 p1 p2 A_p11 n_p11 c_p11 (hr_p11.old c1) hz_p11 r1 hr1) ?_
 intro r41 u42
 refine lv 15 (by kernel_rfl) (fun w1 c1 => (om (v := .tuple _) rfl)) ?_
 refine lv 19 (by kernel_rfl) (fun w1 c1 => (op_extract (v := .agg _) rfl rfl)) ?_
 refine lv 20 (by kernel_rfl) (fun w1 c1 => (op_extract (v := .bool _) rfl rfl)) ?_
 refine lm_alloc 8 [.int .i64 0, .int .i64 0, .int .i64 0, .int .i64 0, .int .i64 0] (v := .agg #[.int .i64 0, .int .i64 0, .int .i64 0, .int .i64 0, .int .i64 0]) (by kernel_rfl) (by kernel_rfl) rfl ?_
 intro b43
 refine lm_storeA 0 [.int .i64 _, .int .i64 _, .int .i64 _, .int .i64 _, .int .i64 _] [_, _, _, _, _] (H' := [blkE _ _ [_, _, _, _, _], _, _, _, _, _]) (by kernel_rfl) rfl rfl (by kernel_rfl) rfl rfl (by kernel_rfl) rfl rfl ?_
 refine lv 9 (by kernel_rfl) (fun w1 c1 => (oa (v := .bool _) rfl)) ?_
 refine ln ?_
 refine xn ?_
 refine cq ?_
 refine cq ?_
 refine cm_callIf fun r44 h45 => ?_
 refine cm_cutE [(29, .bool ((!r41.2) || (!r44)))] ?_ ?_
 ·skip
  refine wq_bool 21 (by kernel_rfl) (fun w1 c1 => (om (v := .bool _) rfl)) (fun h46 => ?_) (fun h46 => ?_)
  ·skip
   refine wv 22 (by kernel_rfl) (fun w1 c1 => (op_nott rfl)) ?_
   refine wv 23 (by kernel_rfl) (fun w1 c1 => (om (v := .bool false) rfl)) ?_
   refine wv 24 (by kernel_rfl) (fun w1 c1 => (op_loadR [.int .i64 _, .int .i64 _, .int .i64 _, .int .i64 _, .slice _ _ _, .int .i64 _] rfl (by kernel_rfl) (c1.cells 3 rfl rfl))) ?_
   refine wv 25 (by kernel_rfl) (fun w1 c1 => (oF (m := 1) (k := 1) rfl (by kernel_rfl) rfl)) ?_
   refine wv 26 (by kernel_rfl) (fun w1 c1 => (ol rfl (by kernel_rfl) (c1.cell 0 (u := .int .i64 _) rfl rfl))) ?_
   refine wq_call 27 (by kernel_rfl) (fun w1 c1 => op_call (by kernel_rfl)) (fun w1 c1 => (m_complaint_emptied_ok N w1 p1 r41.1.Ref A_p11 n_p11 c_p11 (hr_p11.old c1) hz_p11 r44 (h45 (by rw [h46] <;> rfl))).mono (fun _ _ ⟨_, hx, hu⟩ => ⟨hx, c1.call hu⟩)) ?_
   refine wv 28 (by kernel_rfl) (fun w1 c1 => (op_not rfl)) ?_
   refine wv 29 (by kernel_rfl) (fun w1 c1 => (opf (v := .bool _) rfl rfl)) ?_
   exact leaf_q (sub_out 9 _ rfl (by kernel_rfl) ⟨(congrArg Value.bool (by rw [h46] <;> rfl)), trivial⟩)
  ·skip
   refine wv 22 (by kernel_rfl) (fun w1 c1 => (op_notf rfl)) ?_
   refine wv 23 (by kernel_rfl) (fun w1 c1 => (om (v := .bool true) rfl)) ?_
   refine wk 24 (by kernel_rfl) ?_
   refine wk 25 (by kernel_rfl) ?_
   refine wk 26 (by kernel_rfl) ?_
   refine wk 27 (by kernel_rfl) ?_
   refine wk 28 (by kernel_rfl) ?_
   refine wv 29 (by kernel_rfl) (fun w1 c1 => (opt (v := .bool true) rfl rfl)) ?_
   exact leaf_q (sub_out 9 _ rfl (by kernel_rfl) ⟨(congrArg Value.bool (by rw [h46] <;> rfl)), trivial⟩)
 refine xn ?_
 refine cm_condB (by kernel_rfl) rfl (fun h47 => ?_) (fun h47 => ?_)
 ·skip
  refine cq ?_
  refine cr ?_
  refine lv 30 (by kernel_rfl) (fun w1 c1 => (op_build (z := [.slice none 0 0, .slice none 0 0, .slice none 0 0, .slice none 0 0, .slice none 0 0, .int .i64 0, .int .i64 0, .int .i64 0, .int .i64 0, .int .i64 0, .int .i64 0, .int .i64 0, .int .i64 0, .int .i64 0, .int .i64 0, .int .i64 0, .int .i64 0, .int .i64 0]) (tab := [(0, 6), (6, 1), (7, 5), (12, 5), (17, 1)]) (cs := [.slice none 0 0, .slice none 0 0, .slice none 0 0, .slice none 0 0, .slice none 0 0, .int .i64 0, .int .i64 0, .int .i64 0, .int .i64 0, .int .i64 0, .int .i64 0, .int .i64 0, .int .i64 0, .int .i64 0, .int .i64 0, .int .i64 0, .int .i64 0, .int .i64 0]) [] (by kernel_rfl) (by kernel_rfl) fillOk_nil rfl)) ?_
  refine lm_storeA 1 [.slice _ _ _, .slice _ _ _, .slice _ _ _, .slice _ _ _, .slice _ _ _, .int .i64 _, .int .i64 _, .int .i64 _, .int .i64 _, .int .i64 _, .int .i64 _, .int .i64 _, .int .i64 _, .int .i64 _, .int .i64 _, .int .i64 _, .int .i64 _, .int .i64 _] [_, _, _, _, _, _, _, _, _, _, _, _, _, _, _, _, _, _] (H' := [_, blkE _ _ [_, _, _, _, _, _, _, _, _, _, _, _, _, _, _, _, _, _], _, _, _, _]) (by kernel_rfl) rfl rfl (by kernel_rfl) rfl rfl (by kernel_rfl) rfl rfl ?_
  refine lv 7 (by kernel_rfl) (fun w1 c1 => (oa (v := .bool false) rfl)) ?_
  refine ln ?_
  refine xn ?_
  refine cm_ret ?_
  refine xm_thenR ?_
  refine xm_ro (φ := RdE w0 2 encApiHousehold none ([] : List ApiHousehold) ∧ SW none 0 0 (List.length ([] : List ApiHousehold))) ⟨RdE.nil, SW.nil⟩ ?_
  refine xm_ro (φ := RdE w0 5 encApiContainer none ([] : List ApiContainer) ∧ SW none 0 0 (List.length ([] : List ApiContainer))) ⟨RdE.nil, SW.nil⟩ ?_
  refine xm_ro (φ := RdE w0 4 encApiAssign none ([] : List ApiAssign) ∧ SW none 0 0 (List.length ([] : List ApiAssign))) ⟨RdE.nil, SW.nil⟩ ?_
  refine xm_ro (φ := RdE w0 7 encApiEmptying none ([] : List ApiEmptying) ∧ SW none 0 0 (List.length ([] : List ApiEmptying))) ⟨RdE.nil, SW.nil⟩ ?_
  refine xm_ro (φ := RdE w0 5 encApiTariff none ([] : List ApiTariff) ∧ SW none 0 0 (List.length ([] : List ApiTariff))) ⟨RdE.nil, SW.nil⟩ ?_
  exact xm_retCT rfl (by kernel_rfl) (show _ = Value.pointer (some ⟨_, 0, none⟩) from rfl) (by kernel_rfl) (fun w1 c1 => c1.cells 6 (ds := [.slice _ _ _, .slice _ _ _, .slice _ _ _, .slice _ _ _, .slice _ _ _, .int .i64 _, .int .i64 _, .int .i64 _, .int .i64 _, .int .i64 _, .int .i64 _, .int .i64 _, .int .i64 _, .int .i64 _, .int .i64 _, .int .i64 _, .int .i64 _, .int .i64 _]) rfl rfl) (by kernel_rfl) (show _ = Value.bool false from rfl) fun w1 c1 => ⟨(none, 0, 0, none, 0, 0, none, 0, 0, none, 0, 0, none, 0, 0), rfl, hsub [4, 3, 2, 1, 0, 10] (by kernel_rfl) rfl w1 c1⟩
 ·skip
  refine cm_skip ?_
  refine xn ?_
  refine cq ?_
  refine cr ?_
  refine lv 31 (by kernel_rfl) (fun w1 c1 => (oF (m := 3) (k := 3) rfl (by kernel_rfl) rfl)) ?_
  refine lv 32 (by kernel_rfl) (fun w1 c1 => (ol rfl (by kernel_rfl) (c1.cell 4 (u := .slice _ _ _) rfl rfl))) ?_
  refine lv 33 (by kernel_rfl) (fun w1 c1 => (op_makeFuncC [.pointer (some ⟨_, _, _⟩)] rfl)) ?_
  refine lm_call 34 (V := (fun (r : Int) (_u : Unit) => .int .i64 r)) (HR := (fun (_r : Int) (_u : Unit) => [])) (by kernel_rfl) (fun w1 => op_call (by kernel_rfl)) (fun r1 hr1 w1 c1 => m_slices_IndexFunc_complaint_gathered_1_ok N w1 p0.Emptyings r41.1 A_p04 n_p04 c_p04 b43 (hr_p04.old c1) hz_p04 (c1.blk 0 rfl) r1 hr1) ?_
  intro r58 u59
  refine lv 10 (by kernel_rfl) (fun w1 c1 => (oa (v := .int .i64 _) rfl)) ?_
  refine ln ?_
  refine xn ?_
  refine cq ?_
  refine cq ?_
  refine cr ?_
  refine lv 35 (by kernel_rfl) (fun w1 c1 => (om (v := .int .i64 _) rfl)) ?_
  refine lv 36 (by kernel_rfl) (fun w1 c1 => (op_lss rfl rfl)) ?_
  refine ln ?_
  refine xn ?_
  refine cm_cond (by kernel_rfl) rfl (fun h60 => ?_) (fun h60 => ?_)
  ·skip
   refine cq ?_
   refine cr ?_
   refine lv 37 (by kernel_rfl) (fun w1 c1 => (op_build (z := [.slice none 0 0, .slice none 0 0, .slice none 0 0, .slice none 0 0, .slice none 0 0, .int .i64 0, .int .i64 0, .int .i64 0, .int .i64 0, .int .i64 0, .int .i64 0, .int .i64 0, .int .i64 0, .int .i64 0, .int .i64 0, .int .i64 0, .int .i64 0, .int .i64 0]) (tab := [(0, 6), (6, 1), (7, 5), (12, 5), (17, 1)]) (cs := [.slice none 0 0, .slice none 0 0, .slice none 0 0, .slice none 0 0, .slice none 0 0, .int .i64 0, .int .i64 0, .int .i64 0, .int .i64 0, .int .i64 0, .int .i64 0, .int .i64 0, .int .i64 0, .int .i64 0, .int .i64 0, .int .i64 0, .int .i64 0, .int .i64 0]) [] (by kernel_rfl) (by kernel_rfl) fillOk_nil rfl)) ?_
   refine lm_storeA 1 [.slice _ _ _, .slice _ _ _, .slice _ _ _, .slice _ _ _, .slice _ _ _, .int .i64 _, .int .i64 _, .int .i64 _, .int .i64 _, .int .i64 _, .int .i64 _, .int .i64 _, .int .i64 _, .int .i64 _, .int .i64 _, .int .i64 _, .int .i64 _, .int .i64 _] [_, _, _, _, _, _, _, _, _, _, _, _, _, _, _, _, _, _] (H' := [_, blkE _ _ [_, _, _, _, _, _, _, _, _, _, _, _, _, _, _, _, _, _], _, _, _, _]) (by kernel_rfl) rfl rfl (by kernel_rfl) rfl rfl (by kernel_rfl) rfl rfl ?_
   refine lv 7 (by kernel_rfl) (fun w1 c1 => (oa (v := .bool false) rfl)) ?_
   refine ln ?_
   refine xn ?_
   refine cm_ret ?_
   refine xm_thenR ?_
   refine xm_ro (φ := RdE w0 2 encApiHousehold none ([] : List ApiHousehold) ∧ SW none 0 0 (List.length ([] : List ApiHousehold))) ⟨RdE.nil, SW.nil⟩ ?_
   refine xm_ro (φ := RdE w0 5 encApiContainer none ([] : List ApiContainer) ∧ SW none 0 0 (List.length ([] : List ApiContainer))) ⟨RdE.nil, SW.nil⟩ ?_
   refine xm_ro (φ := RdE w0 4 encApiAssign none ([] : List ApiAssign) ∧ SW none 0 0 (List.length ([] : List ApiAssign))) ⟨RdE.nil, SW.nil⟩ ?_
   refine xm_ro (φ := RdE w0 7 encApiEmptying none ([] : List ApiEmptying) ∧ SW none 0 0 (List.length ([] : List ApiEmptying))) ⟨RdE.nil, SW.nil⟩ ?_
   refine xm_ro (φ := RdE w0 5 encApiTariff none ([] : List ApiTariff) ∧ SW none 0 0 (List.length ([] : List ApiTariff))) ⟨RdE.nil, SW.nil⟩ ?_
   exact xm_retCT rfl (by kernel_rfl) (show _ = Value.pointer (some ⟨_, 0, none⟩) from rfl) (by kernel_rfl) (fun w1 c1 => c1.cells 6 (ds := [.slice _ _ _, .slice _ _ _, .slice _ _ _, .slice _ _ _, .slice _ _ _, .int .i64 _, .int .i64 _, .int .i64 _, .int .i64 _, .int .i64 _, .int .i64 _, .int .i64 _, .int .i64 _, .int .i64 _, .int .i64 _, .int .i64 _, .int .i64 _, .int .i64 _]) rfl rfl) (by kernel_rfl) (show _ = Value.bool false from rfl) fun w1 c1 => ⟨(none, 0, 0, none, 0, 0, none, 0, 0, none, 0, 0, none, 0, 0), rfl, hsub [4, 3, 2, 1, 0, 10] (by kernel_rfl) rfl w1 c1⟩
  ·skip
   refine cm_skip ?_
   refine xn ?_
   refine cq ?_
   refine cm_ck (fun h71 => ?_)
   refine cm_ck (fun h72 => ?_)
   refine cm_bind fun r73 h74 => ?_
   refine cm_drawn [(11, .int .i64 r73.1), (12, .int .i64 r73.2)] (by kernel_rfl) (by kernel_rfl) ?_ ?_
   ·skip
    refine wv 39 (by kernel_rfl) (fun w1 c1 => (oF (m := 4) (k := 4) rfl (by kernel_rfl) rfl)) ?_
    refine wv 40 (by kernel_rfl) (fun w1 c1 => (ol rfl (by kernel_rfl) (c1.cell 4 (u := .slice _ _ _) rfl rfl))) ?_
    refine wv 41 (by kernel_rfl) (fun w1 c1 => (oF (m := 3) (k := 3) rfl (by kernel_rfl) rfl)) ?_
    refine wv 42 (by kernel_rfl) (fun w1 c1 => (ol rfl (by kernel_rfl) (c1.cell 4 (u := .slice _ _ _) rfl rfl))) ?_
    refine wv 43 (by kernel_rfl) (fun w1 c1 => (om (v := .int .i64 _) rfl)) ?_
    refine wv 44 (by kernel_rfl) (fun w1 c1 => (op_indexA 7 rfl rfl (by kernel_rfl) ((hr_p04.old c1).addr h71.1 h71.2) hz_p04.2.2 h71.1 h71.2)) ?_
    refine wv 45 (by kernel_rfl) (fun w1 c1 => (op_field (m := 3) rfl (by kernel_rfl))) ?_
    refine wv 46 (by kernel_rfl) (fun w1 c1 => (ol (v := .int .i64 ((ix p0.Emptyings r58).At)) rfl (by kernel_rfl) ((hr_p04.old c1).cell (j := 3) h71.1 h71.2 rfl))) ?_
    refine wv 47 (by kernel_rfl) (fun w1 c1 => (op_quoK rfl rfl (by kernel_rfl) h72)) ?_
    refine wq_call 48 (by kernel_rfl) (fun w1 c1 => op_call (by kernel_rfl)) (fun w1 c1 => (m_tariff_At_ok N w1 p0.Tariffs (Int.tdiv ((ix p0.Emptyings r58).At) 86400) A_p05 n_p05 c_p05 (hr_p05.old c1) hz_p05 r73 h74).mono (fun _ _ ⟨_, hx, hu⟩ => ⟨hx, c1.call hu⟩)) ?_
    refine wv 38 (by kernel_rfl) (fun w1 c1 => (om (v := .tuple _) rfl)) ?_
    refine wv 49 (by kernel_rfl) (fun w1 c1 => (op_extract (v := .int .i64 _) rfl rfl)) ?_
    refine wv 50 (by kernel_rfl) (fun w1 c1 => (op_extract (v := .int .i64 _) rfl rfl)) ?_
    refine wv 11 (by kernel_rfl) (fun w1 c1 => (oa (v := .int .i64 _) rfl)) ?_
    refine wv 12 (by kernel_rfl) (fun w1 c1 => (oa (v := .int .i64 _) rfl)) ?_
    exact leaf_q (sub_out 15 _ rfl (by kernel_rfl) ⟨rfl, rfl, trivial⟩)
   refine xn ?_
   refine cq ?_
   refine cq ?_
   refine cr ?_
   refine lv 51 (by kernel_rfl) (fun w1 c1 => (om (v := .int .i64 _) rfl)) ?_
   refine lv 52 (by kernel_rfl) (fun w1 c1 => (op_neq rfl rfl)) ?_
   refine ln ?_
   refine xn ?_
   refine cm_cond (by kernel_rfl) rfl (fun h75 => ?_) (fun h75 => ?_)
   ·skip
    refine cq ?_
    refine cr ?_
    refine lv 53 (by kernel_rfl) (fun w1 c1 => (op_build (z := [.slice none 0 0, .slice none 0 0, .slice none 0 0, .slice none 0 0, .slice none 0 0, .int .i64 0, .int .i64 0, .int .i64 0, .int .i64 0, .int .i64 0, .int .i64 0, .int .i64 0, .int .i64 0, .int .i64 0, .int .i64 0, .int .i64 0, .int .i64 0, .int .i64 0]) (tab := [(0, 6), (6, 1), (7, 5), (12, 5), (17, 1)]) (cs := [.slice none 0 0, .slice none 0 0, .slice none 0 0, .slice none 0 0, .slice none 0 0, .int .i64 0, .int .i64 0, .int .i64 0, .int .i64 0, .int .i64 0, .int .i64 0, .int .i64 0, .int .i64 0, .int .i64 0, .int .i64 0, .int .i64 0, .int .i64 0, .int .i64 0]) [] (by kernel_rfl) (by kernel_rfl) fillOk_nil rfl)) ?_
    refine lm_storeA 1 [.slice _ _ _, .slice _ _ _, .slice _ _ _, .slice _ _ _, .slice _ _ _, .int .i64 _, .int .i64 _, .int .i64 _, .int .i64 _, .int .i64 _, .int .i64 _, .int .i64 _, .int .i64 _, .int .i64 _, .int .i64 _, .int .i64 _, .int .i64 _, .int .i64 _] [_, _, _, _, _, _, _, _, _, _, _, _, _, _, _, _, _, _] (H' := [_, blkE _ _ [_, _, _, _, _, _, _, _, _, _, _, _, _, _, _, _, _, _], _, _, _, _]) (by kernel_rfl) rfl rfl (by kernel_rfl) rfl rfl (by kernel_rfl) rfl rfl ?_
    refine lv 7 (by kernel_rfl) (fun w1 c1 => (oa (v := .bool false) rfl)) ?_
    refine ln ?_
    refine xn ?_
    refine cm_ret ?_
    refine xm_thenR ?_
    refine xm_ro (φ := RdE w0 2 encApiHousehold none ([] : List ApiHousehold) ∧ SW none 0 0 (List.length ([] : List ApiHousehold))) ⟨RdE.nil, SW.nil⟩ ?_
    refine xm_ro (φ := RdE w0 5 encApiContainer none ([] : List ApiContainer) ∧ SW none 0 0 (List.length ([] : List ApiContainer))) ⟨RdE.nil, SW.nil⟩ ?_
    refine xm_ro (φ := RdE w0 4 encApiAssign none ([] : List ApiAssign) ∧ SW none 0 0 (List.length ([] : List ApiAssign))) ⟨RdE.nil, SW.nil⟩ ?_
    refine xm_ro (φ := RdE w0 7 encApiEmptying none ([] : List ApiEmptying) ∧ SW none 0 0 (List.length ([] : List ApiEmptying))) ⟨RdE.nil, SW.nil⟩ ?_
    refine xm_ro (φ := RdE w0 5 encApiTariff none ([] : List ApiTariff) ∧ SW none 0 0 (List.length ([] : List ApiTariff))) ⟨RdE.nil, SW.nil⟩ ?_
    exact xm_retCT rfl (by kernel_rfl) (show _ = Value.pointer (some ⟨_, 0, none⟩) from rfl) (by kernel_rfl) (fun w1 c1 => c1.cells 6 (ds := [.slice _ _ _, .slice _ _ _, .slice _ _ _, .slice _ _ _, .slice _ _ _, .int .i64 _, .int .i64 _, .int .i64 _, .int .i64 _, .int .i64 _, .int .i64 _, .int .i64 _, .int .i64 _, .int .i64 _, .int .i64 _, .int .i64 _, .int .i64 _, .int .i64 _]) rfl rfl) (by kernel_rfl) (show _ = Value.bool false from rfl) fun w1 c1 => ⟨(none, 0, 0, none, 0, 0, none, 0, 0, none, 0, 0, none, 0, 0), rfl, hsub [4, 3, 2, 1, 0, 10] (by kernel_rfl) rfl w1 c1⟩
   ·skip
    refine cm_skip ?_
    refine xn ?_
    refine cq ?_
    refine cr ?_
    refine lv 55 (by kernel_rfl) (fun w1 c1 => (op_loadR [.int .i64 _, .int .i64 _, .int .i64 _, .int .i64 _, .slice _ _ _, .int .i64 _] rfl (by kernel_rfl) (c1.cells 3 rfl rfl))) ?_
    refine lv 56 (by kernel_rfl) (fun w1 c1 => (oF (m := 1) (k := 1) rfl (by kernel_rfl) rfl)) ?_
    refine lv 57 (by kernel_rfl) (fun w1 c1 => (ol rfl (by kernel_rfl) (c1.cell 0 (u := .int .i64 _) rfl rfl))) ?_
    refine lm_call 58 (V := (fun (r : Int × Int) (_u : Unit) => .tuple #[.int .i64 r.1, .int .i64 r.2])) (HR := (fun (_r : Int × Int) (_u : Unit) => [])) (by kernel_rfl) (fun w1 => op_call (by kernel_rfl)) (fun r1 hr1 w1 c1 => m_complaint_Rest_ok N w1 p1 r41.1.Ref A_p11 n_p11 c_p11 (hr_p11.old c1) hz_p11 r1 hr1) ?_
    intro r86 u87
    refine lv 54 (by kernel_rfl) (fun w1 c1 => (om (v := .tuple _) rfl)) ?_
    refine lv 59 (by kernel_rfl) (fun w1 c1 => (op_extract (v := .int .i64 _) rfl rfl)) ?_
    refine lv 60 (by kernel_rfl) (fun w1 c1 => (op_extract (v := .int .i64 _) rfl rfl)) ?_
    refine lv 13 (by kernel_rfl) (fun w1 c1 => (oa (v := .int .i64 _) rfl)) ?_
    refine lv 14 (by kernel_rfl) (fun w1 c1 => (oa (v := .int .i64 _) rfl)) ?_
    refine ln ?_
    refine xn ?_
    refine cq ?_
    refine cm_ck (fun h88 => ?_)
    refine cm_held (ξ := Unit) (fun u93 => [(6, .pointer (some ⟨b40, 0, none⟩)), (7, .bool true)]) (fun u93 => [blkE b40 68 [.slice A_p01 n_p01 c_p01, .slice A_p02 n_p02 c_p02, .slice A_p03 n_p03 c_p03, .slice A_p04 n_p04 c_p04, .slice A_p05 n_p05 c_p05, .int .i64 p0.Gap, .int .i64 r58, .int .i64 ((ix p0.Tariffs r73.1).From), .int .i64 ((ix p0.Tariffs r73.1).Base), .int .i64 ((ix p0.Tariffs r73.1).Empty), .int .i64 ((ix p0.Tariffs r73.1).Kilo), .int .i64 ((ix p0.Tariffs r73.1).Free), .int .i64 r41.1.Kind, .int .i64 r41.1.Ref, .int .i64 r41.1.Count, .int .i64 r41.1.Price, .int .i64 r41.1.Amount, .int .i64 r86.1], packE w0.heap.size F]) [blkE b43 66 [.int .i64 r41.1.Kind, .int .i64 r41.1.Ref, .int .i64 r41.1.Count, .int .i64 r41.1.Price, .int .i64 r41.1.Amount], blkE b39 35 [.int .i64 p2.Bill, .int .i64 p2.Item, .int .i64 p2.At, .int .i64 p2.Kind], blkE b38 33 [.int .i64 p1.ID, .int .i64 p1.Household, .int .i64 p1.When.From, .int .i64 p1.When.To, .slice A_p11 n_p11 c_p11, .int .i64 p1.Total], blkE b37 28 [.slice A_p01 n_p01 c_p01, .slice A_p02 n_p02 c_p02, .slice A_p03 n_p03 c_p03, .slice A_p04 n_p04 c_p04, .slice A_p05 n_p05 c_p05, .int .i64 p0.Gap], packE w0.heap.size F] 12 (by kernel_rfl) (by rfl) (hsub [0, 2, 3, 4, 5] (by kernel_rfl) (by rfl)) ?_ ?_
    ·intro w95 c96
     refine wh_take 0 61 rfl (by kernel_rfl) (by kernel_rfl) (fun w2 c2 => (op_loadR [.slice _ _ _, .slice _ _ _, .slice _ _ _, .slice _ _ _, .slice _ _ _, .int .i64 _] rfl (by kernel_rfl) (c2.cells 3 rfl rfl))) (hsub [0, 2, 3, 4, 5] (by kernel_rfl) rfl _ c96) ?_
     refine wh_take 1 62 rfl (by kernel_rfl) (by kernel_rfl) (fun w2 c2 => (om (v := .int .i64 _) rfl)) (hsub [0, 2, 3, 4, 5] (by kernel_rfl) rfl _ c96) ?_
     refine wh_take 2 63 rfl (by kernel_rfl) (by kernel_rfl) (fun w2 c2 => (oF (m := 4) (k := 4) rfl (by kernel_rfl) rfl)) (hsub [0, 2, 3, 4, 5] (by kernel_rfl) rfl _ c96) ?_
     refine wh_take 3 64 rfl (by kernel_rfl) (by kernel_rfl) (fun w2 c2 => (ol rfl (by kernel_rfl) (c2.cell 3 (u := .slice _ _ _) rfl rfl))) (hsub [0, 2, 3, 4, 5] (by kernel_rfl) rfl _ c96) ?_
     refine wh_take 4 65 rfl (by kernel_rfl) (by kernel_rfl) (fun w2 c2 => (om (v := .int .i64 _) rfl)) (hsub [0, 2, 3, 4, 5] (by kernel_rfl) rfl _ c96) ?_
     refine wh_take 5 66 rfl (by kernel_rfl) (by kernel_rfl) (fun w2 c2 => (op_indexA 5 rfl rfl (by kernel_rfl) ((hr_p05.old c2).addr h88.1 h88.2) hz_p05.2.2 h88.1 h88.2)) (hsub [0, 2, 3, 4, 5] (by kernel_rfl) rfl _ c96) ?_
     refine wh_take 6 67 rfl (by kernel_rfl) (by kernel_rfl) (fun w2 c2 => (op_loadR [.int .i64 ((ix p0.Tariffs r73.1).From), .int .i64 ((ix p0.Tariffs r73.1).Base), .int .i64 ((ix p0.Tariffs r73.1).Empty), .int .i64 ((ix p0.Tariffs r73.1).Kilo), .int .i64 ((ix p0.Tariffs r73.1).Free)] rfl (by kernel_rfl) ((hr_p05.old c2).row h88.1 h88.2))) (hsub [0, 2, 3, 4, 5] (by kernel_rfl) rfl _ c96) ?_
     refine wh_take 7 68 rfl (by kernel_rfl) (by kernel_rfl) (fun w2 c2 => (op_loadR [.int .i64 _, .int .i64 _, .int .i64 _, .int .i64 _, .int .i64 _] rfl (by kernel_rfl) (c2.cells 0 rfl rfl))) (hsub [0, 2, 3, 4, 5] (by kernel_rfl) rfl _ c96) ?_
     refine wh_take 8 69 rfl (by kernel_rfl) (by kernel_rfl) (fun w2 c2 => (om (v := .int .i64 _) rfl)) (hsub [0, 2, 3, 4, 5] (by kernel_rfl) rfl _ c96) ?_
     refine wh_take 9 70 rfl (by kernel_rfl) (by kernel_rfl) (fun w2 c2 => (op_build (z := [.slice none 0 0, .slice none 0 0, .slice none 0 0, .slice none 0 0, .slice none 0 0, .int .i64 0, .int .i64 0, .int .i64 0, .int .i64 0, .int .i64 0, .int .i64 0, .int .i64 0, .int .i64 0, .int .i64 0, .int .i64 0, .int .i64 0, .int .i64 0, .int .i64 0]) (tab := [(0, 6), (6, 1), (7, 5), (12, 5), (17, 1)]) (cs := [.slice A_p01 n_p01 c_p01, .slice A_p02 n_p02 c_p02, .slice A_p03 n_p03 c_p03, .slice A_p04 n_p04 c_p04, .slice A_p05 n_p05 c_p05, .int .i64 p0.Gap, .int .i64 r58, .int .i64 ((ix p0.Tariffs r73.1).From), .int .i64 ((ix p0.Tariffs r73.1).Base), .int .i64 ((ix p0.Tariffs r73.1).Empty), .int .i64 ((ix p0.Tariffs r73.1).Kilo), .int .i64 ((ix p0.Tariffs r73.1).Free), .int .i64 r41.1.Kind, .int .i64 r41.1.Ref, .int .i64 r41.1.Count, .int .i64 r41.1.Price, .int .i64 r41.1.Amount, .int .i64 r86.1]) [(0, [.slice A_p01 n_p01 c_p01, .slice A_p02 n_p02 c_p02, .slice A_p03 n_p03 c_p03, .slice A_p04 n_p04 c_p04, .slice A_p05 n_p05 c_p05, .int .i64 p0.Gap]), (6, [.int .i64 r58]), (7, [.int .i64 ((ix p0.Tariffs r73.1).From), .int .i64 ((ix p0.Tariffs r73.1).Base), .int .i64 ((ix p0.Tariffs r73.1).Empty), .int .i64 ((ix p0.Tariffs r73.1).Kilo), .int .i64 ((ix p0.Tariffs r73.1).Free)]), (12, [.int .i64 r41.1.Kind, .int .i64 r41.1.Ref, .int .i64 r41.1.Count, .int .i64 r41.1.Price, .int .i64 r41.1.Amount]), (17, [.int .i64 r86.1])] (by kernel_rfl) (by kernel_rfl) (fillOk_cons rfl rfl rfl (fillOk_cons rfl rfl rfl (fillOk_cons rfl rfl rfl (fillOk_cons rfl rfl rfl (fillOk_cons rfl rfl rfl fillOk_nil))))) rfl)) (hsub [0, 2, 3, 4, 5] (by kernel_rfl) rfl _ c96) ?_
     refine wh_ready [10] (by kernel_rfl) rfl ⟨?_, trivial⟩
     refine ws_storeA 1 [.slice _ _ _, .slice _ _ _, .slice _ _ _, .slice _ _ _, .slice _ _ _, .int .i64 _, .int .i64 _, .int .i64 _, .int .i64 _, .int .i64 _, .int .i64 _, .int .i64 _, .int .i64 _, .int .i64 _, .int .i64 _, .int .i64 _, .int .i64 _, .int .i64 _] [_, _, _, _, _, _, _, _, _, _, _, _, _, _, _, _, _, _] rfl (by kernel_rfl) rfl rfl (by kernel_rfl) rfl rfl (by kernel_rfl) rfl (H' := [_, blkE _ _ [_, _, _, _, _, _, _, _, _, _, _, _, _, _, _, _, _, _], _, _, _, _]) rfl c96 ?_
     intro w97 c98
     refine ⟨(hsub [0, 2, 3, 4, 5] (by kernel_rfl) rfl _ c98), ?_⟩
     refine wh_take 11 7 rfl (by kernel_rfl) (by kernel_rfl) (fun w2 c2 => (oa (v := .bool true) rfl)) (hsub [0, 2, 3, 4, 5] (by kernel_rfl) rfl _ c98) ?_
     exact wh_done () (by kernel_rfl) (sc (by kernel_rfl) rfl (sc (by kernel_rfl) rfl sub_nil)) (hsub [1, 5] (by kernel_rfl) rfl _ c98)
    intro u93
    refine xn ?_
    refine cm_ret ?_
    refine xm_ro (φ := RdE w0 2 encApiHousehold A_p01 p0.Households ∧ SW A_p01 n_p01 c_p01 (List.length p0.Households)) ⟨hr_p01, hz_p01⟩ ?_
    refine xm_ro (φ := RdE w0 5 encApiContainer A_p02 p0.Containers ∧ SW A_p02 n_p02 c_p02 (List.length p0.Containers)) ⟨hr_p02, hz_p02⟩ ?_
    refine xm_ro (φ := RdE w0 4 encApiAssign A_p03 p0.Assigns ∧ SW A_p03 n_p03 c_p03 (List.length p0.Assigns)) ⟨hr_p03, hz_p03⟩ ?_
    refine xm_ro (φ := RdE w0 7 encApiEmptying A_p04 p0.Emptyings ∧ SW A_p04 n_p04 c_p04 (List.length p0.Emptyings)) ⟨hr_p04, hz_p04⟩ ?_
    refine xm_ro (φ := RdE w0 5 encApiTariff A_p05 p0.Tariffs ∧ SW A_p05 n_p05 c_p05 (List.length p0.Tariffs)) ⟨hr_p05, hz_p05⟩ ?_
    exact xm_retCT rfl (by kernel_rfl) (show _ = Value.pointer (some ⟨_, 0, none⟩) from rfl) (by kernel_rfl) (fun w1 c1 => c1.cells 5 (ds := [.slice _ _ _, .slice _ _ _, .slice _ _ _, .slice _ _ _, .slice _ _ _, .int .i64 _, .int .i64 _, .int .i64 _, .int .i64 _, .int .i64 _, .int .i64 _, .int .i64 _, .int .i64 _, .int .i64 _, .int .i64 _, .int .i64 _, .int .i64 _, .int .i64 _]) rfl rfl) (by kernel_rfl) (show _ = Value.bool true from rfl) fun w1 c1 => ⟨(A_p01, n_p01, c_p01, A_p02, n_p02, c_p02, A_p03, n_p03, c_p03, A_p04, n_p04, c_p04, A_p05, n_p05, c_p05), rfl, hsub [4, 3, 2, 1, 0, 6] (by kernel_rfl) rfl w1 c1⟩
/-- complaint.grounds -/
def m_complaint_grounds (_N : Nat) (p0 : Int) : Option (IfV) :=
 (if p0 = 1 then
  some ((IfV.obj 91))
 else
  (if p0 = 2 then
   some ((IfV.obj 92))
  else
   some ((IfV.obj 93))))
set_option maxRecDepth 20000 in
theorem m_complaint_grounds_ok (N : Nat) (w0 : World) (p0 : Int)   (r : IfV) (hr : m_complaint_grounds N p0 = some r) :
  Calls Tryz.prog 15 [.int .i64 p0].toArray w0 fun x w1 => ∃ u, x = .returned ((fun (r : IfV) (_u : Unit) => valIf r) r u) ∧ Hs w0 ((fun (_r : IfV) (_u : Unit) => []) r u) w1 := by
 refine calls_cm (n := 14) (R := fun r x w1 => ∃ u, x = .returned ((fun (r : IfV) (_u : Unit) => valIf r) r u) ∧ Hs w0 ((fun (_r : IfV) (_u : Unit) => []) r u) w1) Tryz.func15 rfl rfl (Nat.le_of_ble_eq_true rfl) ?_ r hr
 unfold m_complaint_grounds
 refine cq ?_
 refine cr ?_
 refine lv 2 (by kernel_rfl) (fun w1 c1 => (oa (v := .nilIface) rfl)) ?_
 refine ln ?_
 refine xn ?_
 refine cq ?_
 refine cq ?_
 refine cr ?_
 refine lv 3 (by kernel_rfl) (fun w1 c1 => (om (v := .int .i64 _) rfl)) ?_
 refine ln ?_
 refine xn ?_
 refine cm_block ?_
 refine cq ?_
 refine cr ?_
 refine lv 5 (by kernel_rfl) (fun w1 c1 => (op_eql rfl rfl)) ?_
 refine lv 4 (by kernel_rfl) (fun w1 c1 => (oa (v := .bool _) rfl)) ?_
 refine ln ?_
 refine xn ?_
 refine cm_cond (by kernel_rfl) rfl (fun h5 => ?_) (fun h5 => ?_)
 ·skip
  refine cq ?_
  refine cr ?_
  refine lv 6 (by kernel_rfl) (fun w1 c1 => (op_build (z := []) (tab := []) (cs := []) [] (by kernel_rfl) (by kernel_rfl) fillOk_nil rfl)) ?_
  refine lv 7 (by kernel_rfl) (fun w1 c1 => (op_makeIf (v := .agg #[]) rfl (by kernel_rfl))) ?_
  refine lv 2 (by kernel_rfl) (fun w1 c1 => (oa (v := _) rfl)) ?_
  refine ln ?_
  refine xn ?_
  refine cm_ret ?_
  refine xm_inR ?_
  refine xm_thenR ?_
  exact xm_retT rfl (by kernel_rfl) (show _ = _ from rfl) fun w1 c1 => ⟨(), rfl, hsub [] (by kernel_rfl) rfl w1 c1⟩
 ·skip
  refine cq ?_
  refine cr ?_
  refine lv 9 (by kernel_rfl) (fun w1 c1 => (op_eql rfl rfl)) ?_
  refine lv 8 (by kernel_rfl) (fun w1 c1 => (oa (v := .bool _) rfl)) ?_
  refine ln ?_
  refine xn ?_
  refine cm_cond (by kernel_rfl) rfl (fun h6 => ?_) (fun h6 => ?_)
  ·skip
   refine cq ?_
   refine cr ?_
   refine lv 10 (by kernel_rfl) (fun w1 c1 => (op_build (z := []) (tab := []) (cs := []) [] (by kernel_rfl) (by kernel_rfl) fillOk_nil rfl)) ?_
   refine lv 11 (by kernel_rfl) (fun w1 c1 => (op_makeIf (v := .agg #[]) rfl (by kernel_rfl))) ?_
   refine lv 2 (by kernel_rfl) (fun w1 c1 => (oa (v := _) rfl)) ?_
   refine ln ?_
   refine xn ?_
   refine cm_ret ?_
   refine xm_inR ?_
   refine xm_thenR ?_
   exact xm_retT rfl (by kernel_rfl) (show _ = _ from rfl) fun w1 c1 => ⟨(), rfl, hsub [] (by kernel_rfl) rfl w1 c1⟩
  ·skip
   refine cm_skip ?_
   refine xm_inN ?_
   refine xn ?_
   refine cq ?_
   refine cr ?_
   refine lv 12 (by kernel_rfl) (fun w1 c1 => (op_build (z := []) (tab := []) (cs := []) [] (by kernel_rfl) (by kernel_rfl) fillOk_nil rfl)) ?_
   refine lv 13 (by kernel_rfl) (fun w1 c1 => (op_makeIf (v := .agg #[]) rfl (by kernel_rfl))) ?_
   refine lv 2 (by kernel_rfl) (fun w1 c1 => (oa (v := _) rfl)) ?_
   refine ln ?_
   refine xn ?_
   refine cm_ret ?_
   exact xm_retT rfl (by kernel_rfl) (show _ = _ from rfl) fun w1 c1 => ⟨(), rfl, hsub [] (by kernel_rfl) rfl w1 c1⟩
/-- (complaint.never).credit -/
def m_complaint_never_credit (_N : Nat) (_p0 : ComplaintNever) (p1 : ComplaintMatter) : Option (Int) :=
 ck ((0 : Int) ≤ p1.index_ ∧ p1.index_ < (List.length p1.account_.Emptyings : Int)) (
  (if (ix p1.account_.Emptyings p1.index_).Void = true then
   some (p1.rest_)
  else
   some ((0 : Int))))
set_option maxRecDepth 20000 in
theorem m_complaint_never_credit_ok (N : Nat) (w0 : World) (p0 : ComplaintNever) (p1 : ComplaintMatter) (A_p11 : Option Addr) (n_p11 c_p11 : Nat) (A_p12 : Option Addr) (n_p12 c_p12 : Nat) (A_p13 : Option Addr) (n_p13 c_p13 : Nat) (A_p14 : Option Addr) (n_p14 c_p14 : Nat) (A_p15 : Option Addr) (n_p15 c_p15 : Nat) (_hr_p11 : RdE w0 2 encApiHousehold A_p11 p1.account_.Households) (_hz_p11 : SW A_p11 n_p11 c_p11 (List.length p1.account_.Households)) (_hr_p12 : RdE w0 5 encApiContainer A_p12 p1.account_.Containers) (_hz_p12 : SW A_p12 n_p12 c_p12 (List.length p1.account_.Containers)) (_hr_p13 : RdE w0 4 encApiAssign A_p13 p1.account_.Assigns) (_hz_p13 : SW A_p13 n_p13 c_p13 (List.length p1.account_.Assigns)) (hr_p14 : RdE w0 7 encApiEmptying A_p14 p1.account_.Emptyings) (hz_p14 : SW A_p14 n_p14 c_p14 (List.length p1.account_.Emptyings)) (_hr_p15 : RdE w0 5 encApiTariff A_p15 p1.account_.Tariffs) (_hz_p15 : SW A_p15 n_p15 c_p15 (List.length p1.account_.Tariffs)) (r : Int) (hr : m_complaint_never_credit N p0 p1 = some r) :
  Calls Tryz.prog 90 [.agg #[], .agg #[.slice A_p11 n_p11 c_p11, .slice A_p12 n_p12 c_p12, .slice A_p13 n_p13 c_p13, .slice A_p14 n_p14 c_p14, .slice A_p15 n_p15 c_p15, .int .i64 p1.account_.Gap, .int .i64 p1.index_, .int .i64 p1.version_.From, .int .i64 p1.version_.Base, .int .i64 p1.version_.Empty, .int .i64 p1.version_.Kilo, .int .i64 p1.version_.Free, .int .i64 p1.item_.Kind, .int .i64 p1.item_.Ref, .int .i64 p1.item_.Count, .int .i64 p1.item_.Price, .int .i64 p1.item_.Amount, .int .i64 p1.rest_]].toArray w0 fun x w1 => ∃ u, x = .returned ((fun (r : Int) (_u : Unit) => .int .i64 r) r u) ∧ Hs w0 ((fun (_r : Int) (_u : Unit) => []) r u) w1 := by
 refine calls_cm (n := 15) (R := fun r x w1 => ∃ u, x = .returned ((fun (r : Int) (_u : Unit) => .int .i64 r) r u) ∧ Hs w0 ((fun (_r : Int) (_u : Unit) => []) r u) w1) Tryz.func90 rfl rfl (Nat.le_of_ble_eq_true rfl) ?_ r hr
 unfold m_complaint_never_credit
 refine cq ?_
 refine cr ?_
 refine lm_box 2 [] (by kernel_rfl) rfl ?_
 intro b5
 refine lm_box 3 [.slice _ _ _, .slice _ _ _, .slice _ _ _, .slice _ _ _, .slice _ _ _, .int .i64 _, .int .i64 _, .int .i64 _, .int .i64 _, .int .i64 _, .int .i64 _, .int .i64 _, .int .i64 _, .int .i64 _, .int .i64 _, .int .i64 _, .int .i64 _, .int .i64 _] (by kernel_rfl) rfl ?_
 intro b6
 refine lv 4 (by kernel_rfl) (fun w1 c1 => (oa (v := .int .i64 _) rfl)) ?_
 refine ln ?_
 refine xn ?_
 refine cq ?_
 refine cq ?_
 refine cr ?_
 refine lv 5 (by kernel_rfl) (fun w1 c1 => (oF (m := 0) (k := 0) rfl (by kernel_rfl) rfl)) ?_
 refine lv 6 (by kernel_rfl) (fun w1 c1 => (oF (m := 3) (k := 3) rfl (by kernel_rfl) rfl)) ?_
 refine lv 7 (by kernel_rfl) (fun w1 c1 => (ol rfl (by kernel_rfl) (c1.cell 0 (u := .slice _ _ _) rfl rfl))) ?_
 refine lv 8 (by kernel_rfl) (fun w1 c1 => (oF (m := 6) (k := 6) rfl (by kernel_rfl) rfl)) ?_
 refine lv 9 (by kernel_rfl) (fun w1 c1 => (ol rfl (by kernel_rfl) (c1.cell 0 (u := .int .i64 _) rfl rfl))) ?_
 refine lm_ck (fun h7 => ?_)
 refine lv 10 (by kernel_rfl) (fun w1 c1 => (op_indexA 7 rfl rfl (by kernel_rfl) ((hr_p14.old c1).addr h7.1 h7.2) hz_p14.2.2 h7.1 h7.2)) ?_
 refine lv 11 (by kernel_rfl) (fun w1 c1 => (op_field (m := 6) rfl (by kernel_rfl))) ?_
 refine lv 12 (by kernel_rfl) (fun w1 c1 => (ol (v := .bool ((ix p1.account_.Emptyings p1.index_).Void)) rfl (by kernel_rfl) ((hr_p14.old c1).cell (j := 6) h7.1 h7.2 rfl))) ?_
 refine ln ?_
 refine xn ?_
 refine cm_condB (by kernel_rfl) rfl (fun h8 => ?_) (fun h8 => ?_)
 ·skip
  refine cq ?_
  refine cr ?_
  refine lv 13 (by kernel_rfl) (fun w1 c1 => (oF (m := 17) (k := 17) rfl (by kernel_rfl) rfl)) ?_
  refine lv 14 (by kernel_rfl) (fun w1 c1 => (ol rfl (by kernel_rfl) (c1.cell 0 (u := .int .i64 _) rfl rfl))) ?_
  refine lv 4 (by kernel_rfl) (fun w1 c1 => (oa (v := .int .i64 _) rfl)) ?_
  refine ln ?_
  refine xn ?_
  refine cm_ret ?_
  refine xm_thenR ?_
  exact xm_retT rfl (by kernel_rfl) (show _ = Value.int .i64 _ from rfl) fun w1 c1 => ⟨(), rfl, hsub [] (by kernel_rfl) rfl w1 c1⟩
 ·skip
  refine cm_skip ?_
  refine xn ?_
  refine cq ?_
  refine cr ?_
  refine lv 4 (by kernel_rfl) (fun w1 c1 => (oa (v := .int .i64 _) rfl)) ?_
  refine ln ?_
  refine xn ?_
  refine cm_ret ?_
  exact xm_retT rfl (by kernel_rfl) (show _ = Value.int .i64 _ from rfl) fun w1 c1 => ⟨(), rfl, hsub [] (by kernel_rfl) rfl w1 c1⟩
/-- slices.Index -/
def m_slices_Index (N : Nat) (p0 : (List Int)) (p1 : Int) : Option (Int) :=
 (andThen
  (loopM (fun (s37 : Int) =>
   (if s37 < (List.length p0 : Int) then
    ck ((0 : Int) ≤ s37 ∧ s37 < (List.length p0 : Int)) (
     (if p1 = (ix p0 s37) then
      some (.done (.done (s37)))
     else
      ck (I64 (s37 + (1 : Int))) (
       some (.next (s37 + (1 : Int))))))
   else
    some (.done (.next ())))) N (0 : Int))
 fun (_s23 : Unit) =>
  some ((-1 : Int)))
set_option maxRecDepth 20000 in
theorem m_slices_Index_ok (N : Nat) (w0 : World) (p0 : (List Int)) (p1 : Int) (A_p0 : Option Addr) (n_p0 c_p0 : Nat) (hr_p0 : RdE w0 1 encI A_p0 p0) (hz_p0 : SW A_p0 n_p0 c_p0 (List.length p0)) (r : Int) (hr : m_slices_Index N p0 p1 = some r) :
  Calls Tryz.prog 95 [.slice A_p0 n_p0 c_p0, .int .i64 p1].toArray w0 fun x w1 => ∃ u, x = .returned ((fun (r : Int) (_u : Unit) => .int .i64 r) r u) ∧ Hs w0 ((fun (_r : Int) (_u : Unit) => []) r u) w1 := by
 refine calls_cm (n := 19) (R := fun r x w1 => ∃ u, x = .returned ((fun (r : Int) (_u : Unit) => .int .i64 r) r u) ∧ Hs w0 ((fun (_r : Int) (_u : Unit) => []) r u) w1) Tryz.func95 rfl rfl (Nat.le_of_ble_eq_true rfl) ?_ r hr
 unfold m_slices_Index
 refine cq ?_
 refine cr ?_
 refine lv 4 (by kernel_rfl) (fun w1 c1 => (oa (v := .int .i64 _) rfl)) ?_
 refine ln ?_
 refine xn ?_
 refine cm_join (σ := Unit) (ξ := Unit) (fun s23 u24 => []) (fun s23 u24 => []) ?_ ?_
 ·skip
  refine cq ?_
  refine cr ?_
  refine lv 6 (by kernel_rfl) (fun w1 c1 => (om (v := .slice _ _ _) rfl)) ?_
  refine lv 7 (by kernel_rfl) (fun w1 c1 => (op_lenN rfl (by kernel_rfl) hz_p0.2.2)) ?_
  refine lv 8 (by kernel_rfl) (fun w1 c1 => (om (v := .int .i64 _) rfl)) ?_
  refine ln ?_
  refine xn ?_
  refine cm_block ?_
  refine cm_loop (σ := Int) (ξ := Unit) (fun s37 u38 => [(0, .slice A_p0 n_p0 c_p0), (1, .int .i64 p1), (7, .int .i64 (List.length p0 : Int)), (8, .int .i64 s37)]) (fun s37 u38 => []) () ?_ ?_ ?_
  ·exact (sc (by kernel_rfl) rfl (sc (by kernel_rfl) rfl (sc (by kernel_rfl) rfl (sc (by kernel_rfl) rfl sub_nil))))
  ·exact hsub [] (by kernel_rfl) rfl
  intro s37 u38
  refine cq ?_
  refine cr ?_
  refine lv 9 (by kernel_rfl) (fun w1 c1 => (op_lss rfl rfl)) ?_
  refine ln ?_
  refine xn ?_
  refine cq ?_
  refine cm_cond (by kernel_rfl) rfl (fun h39 => ?_) (fun h39 => ?_)
  ·skip
   refine cm_skip ?_
   refine xn ?_
   refine cq ?_
   refine cm_block ?_
   refine cq ?_
   refine cr ?_
   refine lv 10 (by kernel_rfl) (fun w1 c1 => (om (v := .int .i64 _) rfl)) ?_
   refine lv 5 (by kernel_rfl) (fun w1 c1 => (oa (v := .int .i64 _) rfl)) ?_
   refine ln ?_
   refine xn ?_
   refine cq ?_
   refine cr ?_
   refine lv 11 (by kernel_rfl) (fun w1 c1 => (om (v := .int .i64 _) rfl)) ?_
   refine lv 12 (by kernel_rfl) (fun w1 c1 => (om (v := .slice _ _ _) rfl)) ?_
   refine lv 13 (by kernel_rfl) (fun w1 c1 => (om (v := .int .i64 _) rfl)) ?_
   refine lm_ck (fun h40 => ?_)
   refine lv 14 (by kernel_rfl) (fun w1 c1 => (op_indexA 1 rfl rfl (by kernel_rfl) ((hr_p0.old c1).addr h40.1 h40.2) hz_p0.2.2 h40.1 h40.2)) ?_
   refine lv 15 (by kernel_rfl) (fun w1 c1 => (ol (v := .int .i64 (ix p0 s37)) rfl (by kernel_rfl) ((hr_p0.old c1).cell0 h40.1 h40.2 rfl))) ?_
   refine lv 16 (by kernel_rfl) (fun w1 c1 => (op_eql rfl rfl)) ?_
   refine ln ?_
   refine xn ?_
   refine cm_cond (by kernel_rfl) rfl (fun h41 => ?_) (fun h41 => ?_)
   ·skip
    refine cq ?_
    refine cr ?_
    refine lv 17 (by kernel_rfl) (fun w1 c1 => (om (v := .int .i64 _) rfl)) ?_
    refine lv 4 (by kernel_rfl) (fun w1 c1 => (oa (v := .int .i64 _) rfl)) ?_
    refine ln ?_
    refine xn ?_
    refine cm_ret ?_
    refine xm_inR ?_
    refine xm_thenR ?_
    refine xm_lret ?_
    refine xm_inR ?_
    refine xm_lret ?_
    exact xm_retT rfl (by kernel_rfl) (show _ = Value.int .i64 _ from rfl) fun w1 c1 => ⟨(), rfl, hsub [] (by kernel_rfl) rfl w1 c1⟩
   ·skip
    refine cm_skip ?_
    refine xm_inN ?_
    refine xn ?_
    refine cr ?_
    refine lm_ck (fun h42 => ?_)
    refine lv 18 (by kernel_rfl) (fun w1 c1 => (op_add rfl rfl h42)) ?_
    refine lv 8 (by kernel_rfl) (fun w1 c1 => (om (v := .int .i64 _) rfl)) ?_
    refine ln ?_
    exact xm_lnext () (sc (by kernel_rfl) rfl (sc (by kernel_rfl) rfl (sc (by kernel_rfl) rfl (sc (by kernel_rfl) rfl sub_nil)))) (hsub [] (by kernel_rfl) rfl)
  ·skip
   refine cm_exit ?_
   refine xm_thenE ?_
   refine xm_lexit ?_
   refine xm_here ?_
   exact xm_lnext () sub_nil (hsub [] (by kernel_rfl) rfl)
 intro s23 u24
 refine cq ?_
 refine cr ?_
 refine lv 4 (by kernel_rfl) (fun w1 c1 => (oa (v := .int .i64 _) rfl)) ?_
 refine ln ?_
 refine xn ?_
 refine cm_ret ?_
 exact xm_retT rfl (by kernel_rfl) (show _ = Value.int .i64 _ from rfl) fun w1 c1 => ⟨(), rfl, hsub [] (by kernel_rfl) rfl w1 c1⟩
/-- slices.Contains -/
def m_slices_Contains (N : Nat) (p0 : (List Int)) (p1 : Int) : Option (Bool) :=
 Option.bind (m_slices_Index N p0 p1) fun r5 => some ((decide (0 ≤ r5)))
set_option maxRecDepth 20000 in
theorem m_slices_Contains_ok (N : Nat) (w0 : World) (p0 : (List Int)) (p1 : Int) (A_p0 : Option Addr) (n_p0 c_p0 : Nat) (hr_p0 : RdE w0 1 encI A_p0 p0) (hz_p0 : SW A_p0 n_p0 c_p0 (List.length p0)) (r : Bool) (hr : m_slices_Contains N p0 p1 = some r) :
  Calls Tryz.prog 93 [.slice A_p0 n_p0 c_p0, .int .i64 p1].toArray w0 fun x w1 => ∃ u, x = .returned ((fun (r : Bool) (_u : Unit) => .bool r) r u) ∧ Hs w0 ((fun (_r : Bool) (_u : Unit) => []) r u) w1 := by
 refine calls_cm (n := 9) (R := fun r x w1 => ∃ u, x = .returned ((fun (r : Bool) (_u : Unit) => .bool r) r u) ∧ Hs w0 ((fun (_r : Bool) (_u : Unit) => []) r u) w1) Tryz.func93 rfl rfl (Nat.le_of_ble_eq_true rfl) ?_ r hr
 unfold m_slices_Contains
 refine cq ?_
 refine cr ?_
 refine lv 4 (by kernel_rfl) (fun w1 c1 => (oa (v := .bool false) rfl)) ?_
 refine ln ?_
 refine xn ?_
 refine cq ?_
 refine cr ?_
 refine lv 5 (by kernel_rfl) (fun w1 c1 => (om (v := .slice _ _ _) rfl)) ?_
 refine lv 6 (by kernel_rfl) (fun w1 c1 => (om (v := .int .i64 _) rfl)) ?_
 refine lm_call 7 (V := (fun (r : Int) (_u : Unit) => .int .i64 r)) (HR := (fun (_r : Int) (_u : Unit) => [])) (by kernel_rfl) (fun w1 => op_call (by kernel_rfl)) (fun r1 hr1 w1 c1 => m_slices_Index_ok N w1 p0 p1 A_p0 n_p0 c_p0 (hr_p0.old c1) hz_p0 r1 hr1) ?_
 intro r5 u6
 refine lv 8 (by kernel_rfl) (fun w1 c1 => (op_geq rfl rfl)) ?_
 refine lv 4 (by kernel_rfl) (fun w1 c1 => (oa (v := .bool _) rfl)) ?_
 refine ln ?_
 refine xn ?_
 refine cm_ret ?_
 exact xm_retT rfl (by kernel_rfl) (show _ = Value.bool _ from rfl) fun w1 c1 => ⟨(), rfl, hsub [] (by kernel_rfl) rfl w1 c1⟩
/-- (complaint.twice).credit -/
def m_complaint_twice_credit (N : Nat) (_p0 : ComplaintTwice) (p1 : ComplaintMatter) : Option (Int) :=
 Option.bind (m_emptying_Counts N p1.account_.Emptyings p1.account_.Gap) fun r7 => ck ((0 : Int) ≤ p1.index_ ∧ p1.index_ < (List.length p1.account_.Emptyings : Int)) (
  callIf ((!((ix p1.account_.Emptyings p1.index_).Void)) = true) (m_slices_Contains N r7.1 p1.index_) fun r10 => (if ((!((ix p1.account_.Emptyings p1.index_).Void)) && (!r10)) = true then
   some (p1.rest_)
  else
   some ((0 : Int))))
set_option maxRecDepth 20000 in
theorem m_complaint_twice_credit_ok (N : Nat) (w0 : World) (p0 : ComplaintTwice) (p1 : ComplaintMatter) (A_p11 : Option Addr) (n_p11 c_p11 : Nat) (A_p12 : Option Addr) (n_p12 c_p12 : Nat) (A_p13 : Option Addr) (n_p13 c_p13 : Nat) (A_p14 : Option Addr) (n_p14 c_p14 : Nat) (A_p15 : Option Addr) (n_p15 c_p15 : Nat) (_hr_p11 : RdE w0 2 encApiHousehold A_p11 p1.account_.Households) (_hz_p11 : SW A_p11 n_p11 c_p11 (List.length p1.account_.Households)) (_hr_p12 : RdE w0 5 encApiContainer A_p12 p1.account_.Containers) (_hz_p12 : SW A_p12 n_p12 c_p12 (List.length p1.account_.Containers)) (_hr_p13 : RdE w0 4 encApiAssign A_p13 p1.account_.Assigns) (_hz_p13 : SW A_p13 n_p13 c_p13 (List.length p1.account_.Assigns)) (hr_p14 : RdE w0 7 encApiEmptying A_p14 p1.account_.Emptyings) (hz_p14 : SW A_p14 n_p14 c_p14 (List.length p1.account_.Emptyings)) (_hr_p15 : RdE w0 5 encApiTariff A_p15 p1.account_.Tariffs) (_hz_p15 : SW A_p15 n_p15 c_p15 (List.length p1.account_.Tariffs)) (r : Int) (hr : m_complaint_twice_credit N p0 p1 = some r) :
  Calls Tryz.prog 91 [.agg #[], .agg #[.slice A_p11 n_p11 c_p11, .slice A_p12 n_p12 c_p12, .slice A_p13 n_p13 c_p13, .slice A_p14 n_p14 c_p14, .slice A_p15 n_p15 c_p15, .int .i64 p1.account_.Gap, .int .i64 p1.index_, .int .i64 p1.version_.From, .int .i64 p1.version_.Base, .int .i64 p1.version_.Empty, .int .i64 p1.version_.Kilo, .int .i64 p1.version_.Free, .int .i64 p1.item_.Kind, .int .i64 p1.item_.Ref, .int .i64 p1.item_.Count, .int .i64 p1.item_.Price, .int .i64 p1.item_.Amount, .int .i64 p1.rest_]].toArray w0 fun x w1 => ∃ u, x = .returned ((fun (r : Int) (_u : Unit) => .int .i64 r) r u) ∧ Hs w0 ((fun (_r : Int) (_u : Unit) => []) r u) w1 := by
 refine calls_cm (n := 35) (R := fun r x w1 => ∃ u, x = .returned ((fun (r : Int) (_u : Unit) => .int .i64 r) r u) ∧ Hs w0 ((fun (_r : Int) (_u : Unit) => []) r u) w1) Tryz.func91 rfl rfl (Nat.le_of_ble_eq_true rfl) ?_ r hr
 unfold m_complaint_twice_credit
 refine cq ?_
 refine cr ?_
 refine lm_box 2 [] (by kernel_rfl) rfl ?_
 intro b5
 refine lm_box 3 [.slice _ _ _, .slice _ _ _, .slice _ _ _, .slice _ _ _, .slice _ _ _, .int .i64 _, .int .i64 _, .int .i64 _, .int .i64 _, .int .i64 _, .int .i64 _, .int .i64 _, .int .i64 _, .int .i64 _, .int .i64 _, .int .i64 _, .int .i64 _, .int .i64 _] (by kernel_rfl) rfl ?_
 intro b6
 refine lv 4 (by kernel_rfl) (fun w1 c1 => (oa (v := .int .i64 _) rfl)) ?_
 refine ln ?_
 refine xn ?_
 refine cq ?_
 refine cr ?_
 refine lv 8 (by kernel_rfl) (fun w1 c1 => (oF (m := 0) (k := 0) rfl (by kernel_rfl) rfl)) ?_
 refine lv 9 (by kernel_rfl) (fun w1 c1 => (oF (m := 3) (k := 3) rfl (by kernel_rfl) rfl)) ?_
 refine lv 10 (by kernel_rfl) (fun w1 c1 => (ol rfl (by kernel_rfl) (c1.cell 0 (u := .slice _ _ _) rfl rfl))) ?_
 refine lv 11 (by kernel_rfl) (fun w1 c1 => (oF (m := 0) (k := 0) rfl (by kernel_rfl) rfl)) ?_
 refine lv 12 (by kernel_rfl) (fun w1 c1 => (oF (m := 5) (k := 5) rfl (by kernel_rfl) rfl)) ?_
 refine lv 13 (by kernel_rfl) (fun w1 c1 => (ol rfl (by kernel_rfl) (c1.cell 0 (u := .int .i64 _) rfl rfl))) ?_
 refine lm_call 14 (V := (fun (r : (List Int) × Int) (u : (Option Addr) × Nat × Nat) => .tuple #[.slice u.1 u.2.1 u.2.2, .int .i64 r.2])) (HR := (fun (r : (List Int) × Int) (u : (Option Addr) × Nat × Nat) => [ownE 3 1 encI u.1 u.2.1 u.2.2 r.1])) (by kernel_rfl) (fun w1 => op_call (by kernel_rfl)) (fun r1 hr1 w1 c1 => m_emptying_Counts_ok N w1 p1.account_.Emptyings p1.account_.Gap A_p14 n_p14 c_p14 (hr_p14.old c1) hz_p14 r1 hr1) ?_
 intro r7 u8
 refine lv 7 (by kernel_rfl) (fun w1 c1 => (om (v := .tuple _) rfl)) ?_
 refine lv 15 (by kernel_rfl) (fun w1 c1 => (op_extract (v := .slice _ _ _) rfl rfl)) ?_
 refine lv 16 (by kernel_rfl) (fun w1 c1 => (op_extract (v := .int .i64 _) rfl rfl)) ?_
 refine lv 5 (by kernel_rfl) (fun w1 c1 => (oa (v := .slice _ _ _) rfl)) ?_
 refine lv 6 (by kernel_rfl) (fun w1 c1 => (oa (v := .int .i64 _) rfl)) ?_
 refine ln ?_
 refine xn ?_
 refine cq ?_
 refine cq ?_
 refine cm_ck (fun h9 => ?_)
 refine cm_callIf fun r10 h11 => ?_
 refine cm_cutE [(32, .bool ((!((ix p1.account_.Emptyings p1.index_).Void)) && (!r10)))] ?_ ?_
 ·skip
  refine wv 17 (by kernel_rfl) (fun w1 c1 => (oF (m := 0) (k := 0) rfl (by kernel_rfl) rfl)) ?_
  refine wv 18 (by kernel_rfl) (fun w1 c1 => (oF (m := 3) (k := 3) rfl (by kernel_rfl) rfl)) ?_
  refine wv 19 (by kernel_rfl) (fun w1 c1 => (ol rfl (by kernel_rfl) (c1.cell 1 (u := .slice _ _ _) rfl rfl))) ?_
  refine wv 20 (by kernel_rfl) (fun w1 c1 => (oF (m := 6) (k := 6) rfl (by kernel_rfl) rfl)) ?_
  refine wv 21 (by kernel_rfl) (fun w1 c1 => (ol rfl (by kernel_rfl) (c1.cell 1 (u := .int .i64 _) rfl rfl))) ?_
  refine wv 22 (by kernel_rfl) (fun w1 c1 => (op_indexA 7 rfl rfl (by kernel_rfl) ((hr_p14.old c1).addr h9.1 h9.2) hz_p14.2.2 h9.1 h9.2)) ?_
  refine wv 23 (by kernel_rfl) (fun w1 c1 => (op_field (m := 6) rfl (by kernel_rfl))) ?_
  refine wq_bool 24 (by kernel_rfl) (fun w1 c1 => (ol (v := .bool ((ix p1.account_.Emptyings p1.index_).Void)) rfl (by kernel_rfl) ((hr_p14.old c1).cell (j := 6) h9.1 h9.2 rfl))) (fun h12 => ?_) (fun h12 => ?_)
  ·skip
   refine wv 25 (by kernel_rfl) (fun w1 c1 => (op_nott rfl)) ?_
   refine wv 26 (by kernel_rfl) (fun w1 c1 => (om (v := .bool false) rfl)) ?_
   refine wk 27 (by kernel_rfl) ?_
   refine wk 28 (by kernel_rfl) ?_
   refine wk 29 (by kernel_rfl) ?_
   refine wk 30 (by kernel_rfl) ?_
   refine wk 31 (by kernel_rfl) ?_
   refine wv 32 (by kernel_rfl) (fun w1 c1 => (opf (v := .bool false) rfl rfl)) ?_
   exact leaf_q (sub_out 16 _ rfl (by kernel_rfl) ⟨(congrArg Value.bool (by rw [h12] <;> rfl)), trivial⟩)
  ·skip
   refine wv 25 (by kernel_rfl) (fun w1 c1 => (op_notf rfl)) ?_
   refine wv 26 (by kernel_rfl) (fun w1 c1 => (om (v := .bool true) rfl)) ?_
   refine wv 27 (by kernel_rfl) (fun w1 c1 => (om (v := .slice _ _ _) rfl)) ?_
   refine wv 28 (by kernel_rfl) (fun w1 c1 => (oF (m := 6) (k := 6) rfl (by kernel_rfl) rfl)) ?_
   refine wv 29 (by kernel_rfl) (fun w1 c1 => (ol rfl (by kernel_rfl) (c1.cell 1 (u := .int .i64 _) rfl rfl))) ?_
   refine wq_call 30 (by kernel_rfl) (fun w1 c1 => op_call (by kernel_rfl)) (fun w1 c1 => (m_slices_Contains_ok N w1 r7.1 p1.index_ u8.1 u8.2.1 u8.2.2 (c1.own 0 rfl encI_len) (c1.ownZ 0 rfl) r10 (h11 (by rw [h12] <;> rfl))).mono (fun _ _ ⟨_, hx, hu⟩ => ⟨hx, c1.call hu⟩)) ?_
   refine wv 31 (by kernel_rfl) (fun w1 c1 => (op_not rfl)) ?_
   refine wv 32 (by kernel_rfl) (fun w1 c1 => (opt (v := .bool _) rfl rfl)) ?_
   exact leaf_q (sub_out 16 _ rfl (by kernel_rfl) ⟨(congrArg Value.bool (by rw [h12] <;> rfl)), trivial⟩)
 refine xn ?_
 refine cm_condB (by kernel_rfl) rfl (fun h13 => ?_) (fun h13 => ?_)
 ·skip
  refine cq ?_
  refine cr ?_
  refine lv 33 (by kernel_rfl) (fun w1 c1 => (oF (m := 17) (k := 17) rfl (by kernel_rfl) rfl)) ?_
  refine lv 34 (by kernel_rfl) (fun w1 c1 => (ol rfl (by kernel_rfl) (c1.cell 1 (u := .int .i64 _) rfl rfl))) ?_
  refine lv 4 (by kernel_rfl) (fun w1 c1 => (oa (v := .int .i64 _) rfl)) ?_
  refine ln ?_
  refine xn ?_
  refine cm_ret ?_
  refine xm_thenR ?_
  exact xm_retT rfl (by kernel_rfl) (show _ = Value.int .i64 _ from rfl) fun w1 c1 => ⟨(), rfl, hsub [] (by kernel_rfl) rfl w1 c1⟩
 ·skip
  refine cm_skip ?_
  refine xn ?_
  refine cq ?_
  refine cr ?_
  refine lv 4 (by kernel_rfl) (fun w1 c1 => (oa (v := .int .i64 _) rfl)) ?_
  refine ln ?_
  refine xn ?_
  refine cm_ret ?_
  exact xm_retT rfl (by kernel_rfl) (show _ = Value.int .i64 _ from rfl) fun w1 c1 => ⟨(), rfl, hsub [] (by kernel_rfl) rfl w1 c1⟩
/-- (complaint.weight).credit -/
def m_complaint_weight_credit (N : Nat) (_p0 : ComplaintWeight) (p1 : ComplaintMatter) : Option (Int) :=
 (if p1.item_.Kind ≠ 3 then
  some ((0 : Int))
 else
  ck ((0 : Int) ≤ p1.index_ ∧ p1.index_ < (List.length p1.account_.Emptyings : Int)) (
   Option.bind (m_tariff_Items N p1.version_ (ix p1.account_.Emptyings p1.index_)) fun r9 => (andThen
    (if 1 < (List.length r9.1 : Int) then
     ck ((0 : Int) ≤ 1 ∧ 1 < (List.length r9.1 : Int)) (
      some (.next ((ix r9.1 1).Amount)))
    else
     some (.next (0 : Int)))
   fun (s23 : Int) =>
    ck (I64 (p1.item_.Amount - s23)) (
     some ((min (p1.item_.Amount - s23) p1.rest_))))))
set_option maxRecDepth 20000 in
theorem m_complaint_weight_credit_ok (N : Nat) (w0 : World) (p0 : ComplaintWeight) (p1 : ComplaintMatter) (A_p11 : Option Addr) (n_p11 c_p11 : Nat) (A_p12 : Option Addr) (n_p12 c_p12 : Nat) (A_p13 : Option Addr) (n_p13 c_p13 : Nat) (A_p14 : Option Addr) (n_p14 c_p14 : Nat) (A_p15 : Option Addr) (n_p15 c_p15 : Nat) (_hr_p11 : RdE w0 2 encApiHousehold A_p11 p1.account_.Households) (_hz_p11 : SW A_p11 n_p11 c_p11 (List.length p1.account_.Households)) (_hr_p12 : RdE w0 5 encApiContainer A_p12 p1.account_.Containers) (_hz_p12 : SW A_p12 n_p12 c_p12 (List.length p1.account_.Containers)) (_hr_p13 : RdE w0 4 encApiAssign A_p13 p1.account_.Assigns) (_hz_p13 : SW A_p13 n_p13 c_p13 (List.length p1.account_.Assigns)) (hr_p14 : RdE w0 7 encApiEmptying A_p14 p1.account_.Emptyings) (hz_p14 : SW A_p14 n_p14 c_p14 (List.length p1.account_.Emptyings)) (_hr_p15 : RdE w0 5 encApiTariff A_p15 p1.account_.Tariffs) (_hz_p15 : SW A_p15 n_p15 c_p15 (List.length p1.account_.Tariffs)) (r : Int) (hr : m_complaint_weight_credit N p0 p1 = some r) :
  Calls Tryz.prog 119 [.agg #[], .agg #[.slice A_p11 n_p11 c_p11, .slice A_p12 n_p12 c_p12, .slice A_p13 n_p13 c_p13, .slice A_p14 n_p14 c_p14, .slice A_p15 n_p15 c_p15, .int .i64 p1.account_.Gap, .int .i64 p1.index_, .int .i64 p1.version_.From, .int .i64 p1.version_.Base, .int .i64 p1.version_.Empty, .int .i64 p1.version_.Kilo, .int .i64 p1.version_.Free, .int .i64 p1.item_.Kind, .int .i64 p1.item_.Ref, .int .i64 p1.item_.Count, .int .i64 p1.item_.Price, .int .i64 p1.item_.Amount, .int .i64 p1.rest_]].toArray w0 fun x w1 => ∃ u, x = .returned ((fun (r : Int) (_u : Unit) => .int .i64 r) r u) ∧ Hs w0 ((fun (_r : Int) (_u : Unit) => []) r u) w1 := by
 refine calls_cm (n := 40) (R := fun r x w1 => ∃ u, x = .returned ((fun (r : Int) (_u : Unit) => .int .i64 r) r u) ∧ Hs w0 ((fun (_r : Int) (_u : Unit) => []) r u) w1) Tryz.func119 rfl rfl (Nat.le_of_ble_eq_true rfl) ?_ r hr
 unfold m_complaint_weight_credit
 refine cq ?_
 refine cr ?_
 refine lm_box 2 [] (by kernel_rfl) rfl ?_
 intro b5
 refine lm_box 3 [.slice _ _ _, .slice _ _ _, .slice _ _ _, .slice _ _ _, .slice _ _ _, .int .i64 _, .int .i64 _, .int .i64 _, .int .i64 _, .int .i64 _, .int .i64 _, .int .i64 _, .int .i64 _, .int .i64 _, .int .i64 _, .int .i64 _, .int .i64 _, .int .i64 _] (by kernel_rfl) rfl ?_
 intro b6
 refine lv 4 (by kernel_rfl) (fun w1 c1 => (oa (v := .int .i64 _) rfl)) ?_
 refine ln ?_
 refine xn ?_
 refine cq ?_
 refine cq ?_
 refine cr ?_
 refine lv 8 (by kernel_rfl) (fun w1 c1 => (oF (m := 12) (k := 12) rfl (by kernel_rfl) rfl)) ?_
 refine lv 9 (by kernel_rfl) (fun w1 c1 => (oF (m := 0) (k := 12) rfl (by kernel_rfl) rfl)) ?_
 refine lv 10 (by kernel_rfl) (fun w1 c1 => (ol rfl (by kernel_rfl) (c1.cell 0 (u := .int .i64 _) rfl rfl))) ?_
 refine lv 11 (by kernel_rfl) (fun w1 c1 => (op_neq rfl rfl)) ?_
 refine ln ?_
 refine xn ?_
 refine cm_cond (by kernel_rfl) rfl (fun h7 => ?_) (fun h7 => ?_)
 ·skip
  refine cq ?_
  refine cr ?_
  refine lv 4 (by kernel_rfl) (fun w1 c1 => (oa (v := .int .i64 _) rfl)) ?_
  refine ln ?_
  refine xn ?_
  refine cm_ret ?_
  refine xm_thenR ?_
  exact xm_retT rfl (by kernel_rfl) (show _ = Value.int .i64 _ from rfl) fun w1 c1 => ⟨(), rfl, hsub [] (by kernel_rfl) rfl w1 c1⟩
 ·skip
  refine cm_skip ?_
  refine xn ?_
  refine cq ?_
  refine cm_ck (fun h8 => ?_)
  refine cm_bind fun r9 h10 => ?_
  refine cm_held (ξ := (Option Addr) × Nat × Nat) (fun u14 => [(3, .pointer (some ⟨b6, 0, none⟩)), (5, .slice u14.1 u14.2.1 u14.2.2)]) (fun u14 => [blkE b6 68 [.slice A_p11 n_p11 c_p11, .slice A_p12 n_p12 c_p12, .slice A_p13 n_p13 c_p13, .slice A_p14 n_p14 c_p14, .slice A_p15 n_p15 c_p15, .int .i64 p1.account_.Gap, .int .i64 p1.index_, .int .i64 p1.version_.From, .int .i64 p1.version_.Base, .int .i64 p1.version_.Empty, .int .i64 p1.version_.Kilo, .int .i64 p1.version_.Free, .int .i64 p1.item_.Kind, .int .i64 p1.item_.Ref, .int .i64 p1.item_.Count, .int .i64 p1.item_.Price, .int .i64 p1.item_.Amount, .int .i64 p1.rest_], ownE 66 5 encApiItem u14.1 u14.2.1 u14.2.2 r9.1]) [blkE b6 68 [.slice A_p11 n_p11 c_p11, .slice A_p12 n_p12 c_p12, .slice A_p13 n_p13 c_p13, .slice A_p14 n_p14 c_p14, .slice A_p15 n_p15 c_p15, .int .i64 p1.account_.Gap, .int .i64 p1.index_, .int .i64 p1.version_.From, .int .i64 p1.version_.Base, .int .i64 p1.version_.Empty, .int .i64 p1.version_.Kilo, .int .i64 p1.version_.Free, .int .i64 p1.item_.Kind, .int .i64 p1.item_.Ref, .int .i64 p1.item_.Count, .int .i64 p1.item_.Price, .int .i64 p1.item_.Amount, .int .i64 p1.rest_], blkE b5 93 []] 15 (by kernel_rfl) (by rfl) (hsub [0, 1] (by kernel_rfl) (by rfl)) ?_ ?_
  ·intro w16 c17
   refine wh_take 0 13 rfl (by kernel_rfl) (by kernel_rfl) (fun w2 c2 => (oF (m := 7) (k := 7) rfl (by kernel_rfl) rfl)) (hsub [0, 1] (by kernel_rfl) rfl _ c17) ?_
   refine wh_take 1 14 rfl (by kernel_rfl) (by kernel_rfl) (fun w2 c2 => (op_loadR [.int .i64 _, .int .i64 _, .int .i64 _, .int .i64 _, .int .i64 _] rfl (by kernel_rfl) (c2.cells 0 rfl rfl))) (hsub [0, 1] (by kernel_rfl) rfl _ c17) ?_
   refine wh_take 2 15 rfl (by kernel_rfl) (by kernel_rfl) (fun w2 c2 => (oF (m := 0) (k := 0) rfl (by kernel_rfl) rfl)) (hsub [0, 1] (by kernel_rfl) rfl _ c17) ?_
   refine wh_take 3 16 rfl (by kernel_rfl) (by kernel_rfl) (fun w2 c2 => (oF (m := 3) (k := 3) rfl (by kernel_rfl) rfl)) (hsub [0, 1] (by kernel_rfl) rfl _ c17) ?_
   refine wh_take 4 17 rfl (by kernel_rfl) (by kernel_rfl) (fun w2 c2 => (ol rfl (by kernel_rfl) (c2.cell 0 (u := .slice _ _ _) rfl rfl))) (hsub [0, 1] (by kernel_rfl) rfl _ c17) ?_
   refine wh_take 5 18 rfl (by kernel_rfl) (by kernel_rfl) (fun w2 c2 => (oF (m := 6) (k := 6) rfl (by kernel_rfl) rfl)) (hsub [0, 1] (by kernel_rfl) rfl _ c17) ?_
   refine wh_take 6 19 rfl (by kernel_rfl) (by kernel_rfl) (fun w2 c2 => (ol rfl (by kernel_rfl) (c2.cell 0 (u := .int .i64 _) rfl rfl))) (hsub [0, 1] (by kernel_rfl) rfl _ c17) ?_
   refine wh_take 7 20 rfl (by kernel_rfl) (by kernel_rfl) (fun w2 c2 => (op_indexA 7 rfl rfl (by kernel_rfl) ((hr_p14.old c2).addr h8.1 h8.2) hz_p14.2.2 h8.1 h8.2)) (hsub [0, 1] (by kernel_rfl) rfl _ c17) ?_
   refine wh_take 8 21 rfl (by kernel_rfl) (by kernel_rfl) (fun w2 c2 => (op_loadR [.int .i64 ((ix p1.account_.Emptyings p1.index_).ID), .int .i64 ((ix p1.account_.Emptyings p1.index_).Container), .int .i64 ((ix p1.account_.Emptyings p1.index_).Vehicle), .int .i64 ((ix p1.account_.Emptyings p1.index_).At), .int .i64 ((ix p1.account_.Emptyings p1.index_).Mass.Lo), .int .i64 ((ix p1.account_.Emptyings p1.index_).Mass.Hi), .bool ((ix p1.account_.Emptyings p1.index_).Void)] rfl (by kernel_rfl) ((hr_p14.old c2).row h8.1 h8.2))) (hsub [0, 1] (by kernel_rfl) rfl _ c17) ?_
   refine wh_ready [9] (by kernel_rfl) rfl ⟨?_, trivial⟩
   refine ws_call 22 rfl (by kernel_rfl) (op_call (by kernel_rfl)) (m_tariff_Items_ok N _ p1.version_ (ix p1.account_.Emptyings p1.index_)  r9 h10) ?_
   rintro x w19 ⟨u18, rfl, c20⟩
   replace c20 := c17.call c20
   refine ⟨_, rfl, (hsub [1, 2] (by kernel_rfl) rfl _ c20), ?_⟩
   refine wh_strong (Hs w0 [ownE 66 5 encApiItem u18.1 u18.2.1 u18.2.2 r9.1, blkE b6 68 [.slice A_p11 n_p11 c_p11, .slice A_p12 n_p12 c_p12, .slice A_p13 n_p13 c_p13, .slice A_p14 n_p14 c_p14, .slice A_p15 n_p15 c_p15, .int .i64 p1.account_.Gap, .int .i64 p1.index_, .int .i64 p1.version_.From, .int .i64 p1.version_.Base, .int .i64 p1.version_.Empty, .int .i64 p1.version_.Kilo, .int .i64 p1.version_.Free, .int .i64 p1.item_.Kind, .int .i64 p1.item_.Ref, .int .i64 p1.item_.Count, .int .i64 p1.item_.Price, .int .i64 p1.item_.Amount, .int .i64 p1.rest_], blkE b5 93 []]) (fun w2 c2 => hsub [1, 2] (by kernel_rfl) rfl w2 c2) ?_
   refine wh_take 10 12 rfl (by kernel_rfl) (by kernel_rfl) (fun w2 c2 => (om (v := .tuple _) rfl)) (hsub [0, 1, 2] (by kernel_rfl) rfl _ c20) ?_
   refine wh_take 11 23 rfl (by kernel_rfl) (by kernel_rfl) (fun w2 c2 => (op_extract (v := .slice _ _ _) rfl rfl)) (hsub [0, 1, 2] (by kernel_rfl) rfl _ c20) ?_
   refine wh_take 12 24 rfl (by kernel_rfl) (by kernel_rfl) (fun w2 c2 => (op_extract (v := .int .i64 _) rfl rfl)) (hsub [0, 1, 2] (by kernel_rfl) rfl _ c20) ?_
   refine wh_take 13 5 rfl (by kernel_rfl) (by kernel_rfl) (fun w2 c2 => (oa (v := .slice _ _ _) rfl)) (hsub [0, 1, 2] (by kernel_rfl) rfl _ c20) ?_
   refine wh_take 14 6 rfl (by kernel_rfl) (by kernel_rfl) (fun w2 c2 => (oa (v := .int .i64 _) rfl)) (hsub [0, 1, 2] (by kernel_rfl) rfl _ c20) ?_
   exact wh_done (u18.1, u18.2.1, u18.2.2) (by kernel_rfl) (sc (by kernel_rfl) rfl (sc (by kernel_rfl) rfl sub_nil)) (hsub [1, 0] (by kernel_rfl) rfl _ c20)
  intro u14
  refine xn ?_
  refine cq ?_
  refine cr ?_
  refine lv 7 (by kernel_rfl) (fun w1 c1 => (oa (v := .int .i64 _) rfl)) ?_
  refine ln ?_
  refine xn ?_
  refine cm_join (σ := Int) (ξ := Unit) (fun s23 u24 => [(3, .pointer (some ⟨b6, 0, none⟩)), (7, .int .i64 s23)]) (fun s23 u24 => [blkE b6 68 [.slice A_p11 n_p11 c_p11, .slice A_p12 n_p12 c_p12, .slice A_p13 n_p13 c_p13, .slice A_p14 n_p14 c_p14, .slice A_p15 n_p15 c_p15, .int .i64 p1.account_.Gap, .int .i64 p1.index_, .int .i64 p1.version_.From, .int .i64 p1.version_.Base, .int .i64 p1.version_.Empty, .int .i64 p1.version_.Kilo, .int .i64 p1.version_.Free, .int .i64 p1.item_.Kind, .int .i64 p1.item_.Ref, .int .i64 p1.item_.Count, .int .i64 p1.item_.Price, .int .i64 p1.item_.Amount, .int .i64 p1.rest_]]) ?_ ?_
  ·skip
   refine cq ?_
   refine cr ?_
   refine lv 25 (by kernel_rfl) (fun w1 c1 => (om (v := .slice _ _ _) rfl)) ?_
   refine lv 26 (by kernel_rfl) (fun w1 c1 => (op_lenN rfl (by kernel_rfl) (c1.ownZ 1 rfl).2.2)) ?_
   refine lv 27 (by kernel_rfl) (fun w1 c1 => (op_gtr rfl rfl)) ?_
   refine ln ?_
   refine xn ?_
   refine cm_cond (by kernel_rfl) rfl (fun h25 => ?_) (fun h25 => ?_)
   ·skip
    refine cr ?_
    refine lv 28 (by kernel_rfl) (fun w1 c1 => (om (v := .slice _ _ _) rfl)) ?_
    refine lm_ck (fun h26 => ?_)
    refine lv 29 (by kernel_rfl) (fun w1 c1 => (op_indexA 5 rfl rfl (by kernel_rfl) ((c1.own 1 rfl encApiItem_len).addr h26.1 h26.2) (c1.ownZ 1 rfl).2.2 h26.1 h26.2)) ?_
    refine lv 30 (by kernel_rfl) (fun w1 c1 => (op_field (m := 4) rfl (by kernel_rfl))) ?_
    refine lv 31 (by kernel_rfl) (fun w1 c1 => (ol (v := .int .i64 ((ix r9.1 1).Amount)) rfl (by kernel_rfl) ((c1.own 1 rfl encApiItem_len).cell (j := 4) h26.1 h26.2 rfl))) ?_
    refine lv 7 (by kernel_rfl) (fun w1 c1 => (oa (v := .int .i64 _) rfl)) ?_
    refine ln ?_
    exact xm_lnext () (sc (by kernel_rfl) rfl (sc (by kernel_rfl) rfl sub_nil)) (hsub [0] (by kernel_rfl) rfl)
   ·skip
    refine cm_skip ?_
    exact xm_lnext () (sc (by kernel_rfl) rfl (sc (by kernel_rfl) rfl sub_nil)) (hsub [0] (by kernel_rfl) rfl)
  intro s23 u24
  refine cq ?_
  refine cr ?_
  refine lv 32 (by kernel_rfl) (fun w1 c1 => (oF (m := 12) (k := 12) rfl (by kernel_rfl) rfl)) ?_
  refine lv 33 (by kernel_rfl) (fun w1 c1 => (oF (m := 4) (k := 16) rfl (by kernel_rfl) rfl)) ?_
  refine lv 34 (by kernel_rfl) (fun w1 c1 => (ol rfl (by kernel_rfl) (c1.cell 0 (u := .int .i64 _) rfl rfl))) ?_
  refine lv 35 (by kernel_rfl) (fun w1 c1 => (om (v := .int .i64 _) rfl)) ?_
  refine lm_ck (fun h27 => ?_)
  refine lv 36 (by kernel_rfl) (fun w1 c1 => (op_sub rfl rfl h27)) ?_
  refine lv 37 (by kernel_rfl) (fun w1 c1 => (oF (m := 17) (k := 17) rfl (by kernel_rfl) rfl)) ?_
  refine lv 38 (by kernel_rfl) (fun w1 c1 => (ol rfl (by kernel_rfl) (c1.cell 0 (u := .int .i64 _) rfl rfl))) ?_
  refine lv 39 (by kernel_rfl) (fun w1 c1 => (op_min rfl rfl)) ?_
  refine lv 4 (by kernel_rfl) (fun w1 c1 => (oa (v := .int .i64 _) rfl)) ?_
  refine ln ?_
  refine xn ?_
  refine cm_ret ?_
  exact xm_retT rfl (by kernel_rfl) (show _ = Value.int .i64 _ from rfl) fun w1 c1 => ⟨(), rfl, hsub [] (by kernel_rfl) rfl w1 c1⟩
/-- complaint.credit through its interface -/
def m_if_recycling_complaint_credit (N : Nat) (d : IfV) (p0 : ComplaintMatter) : Option (Int) :=
 (if d = IfV.obj 91 then m_complaint_never_credit N ComplaintNever.mk p0 else (if d = IfV.obj 92 then m_complaint_twice_credit N ComplaintTwice.mk p0 else (if d = IfV.obj 93 then m_complaint_weight_credit N ComplaintWeight.mk p0 else none)))
def m_if_recycling_complaint_credit_f (d : IfV) : Nat := (if d = IfV.obj 91 then 90 else (if d = IfV.obj 92 then 91 else (if d = IfV.obj 93 then 119 else 0)))
theorem m_if_recycling_complaint_credit_m91 : ∀ w, (method (Tryz.prog.types.size + Made.depth) 91 (.agg #[]) "recycling/complaint.credit").run Tryz.prog w = .ok (90, .agg #[]) w := fun _ => by kernel_rfl
theorem m_if_recycling_complaint_credit_m92 : ∀ w, (method (Tryz.prog.types.size + Made.depth) 92 (.agg #[]) "recycling/complaint.credit").run Tryz.prog w = .ok (91, .agg #[]) w := fun _ => by kernel_rfl
theorem m_if_recycling_complaint_credit_m93 : ∀ w, (method (Tryz.prog.types.size + Made.depth) 93 (.agg #[]) "recycling/complaint.credit").run Tryz.prog w = .ok (119, .agg #[]) w := fun _ => by kernel_rfl
theorem m_if_recycling_complaint_credit_op (N : Nat) (d : IfV) (p0 : ComplaintMatter) {r : Int} (hr : m_if_recycling_complaint_credit N d p0 = some r) {e : Env} {w : World} {ds : Option Tmp} {ty : TypeId} {ps : String} {af : Array Edge} {g : Option (Nat × Bool)} {x : Operand} {l : List Operand} {ats : Array TypeId} (hx : eev e x = valIf d) :
  (execOp (eev e) ⟨ds, .call ⟨.invoke x "recycling/complaint.credit", l.toArray, ats⟩, ty, ps, af, g⟩).run Tryz.prog w = .ok (.enter (m_if_recycling_complaint_credit_f d) (.agg #[] :: l.map (eev e)).toArray) w := by
 unfold m_if_recycling_complaint_credit at hr
 by_cases h91 : d = IfV.obj 91
 ·subst h91; exact op_invoke hx m_if_recycling_complaint_credit_m91 (by kernel_rfl)
 rw [if_neg h91] at hr
 by_cases h92 : d = IfV.obj 92
 ·subst h92; exact op_invoke hx m_if_recycling_complaint_credit_m92 (by kernel_rfl)
 rw [if_neg h92] at hr
 by_cases h93 : d = IfV.obj 93
 ·subst h93; exact op_invoke hx m_if_recycling_complaint_credit_m93 (by kernel_rfl)
 rw [if_neg h93] at hr
 cases hr
theorem m_if_recycling_complaint_credit_ok (N : Nat) (w0 : World) (d : IfV) (p0 : ComplaintMatter) (A_p01 : Option Addr) (n_p01 c_p01 : Nat) (A_p02 : Option Addr) (n_p02 c_p02 : Nat) (A_p03 : Option Addr) (n_p03 c_p03 : Nat) (A_p04 : Option Addr) (n_p04 c_p04 : Nat) (A_p05 : Option Addr) (n_p05 c_p05 : Nat) (hr_p01 : RdE w0 2 encApiHousehold A_p01 p0.account_.Households) (hz_p01 : SW A_p01 n_p01 c_p01 (List.length p0.account_.Households)) (hr_p02 : RdE w0 5 encApiContainer A_p02 p0.account_.Containers) (hz_p02 : SW A_p02 n_p02 c_p02 (List.length p0.account_.Containers)) (hr_p03 : RdE w0 4 encApiAssign A_p03 p0.account_.Assigns) (hz_p03 : SW A_p03 n_p03 c_p03 (List.length p0.account_.Assigns)) (hr_p04 : RdE w0 7 encApiEmptying A_p04 p0.account_.Emptyings) (hz_p04 : SW A_p04 n_p04 c_p04 (List.length p0.account_.Emptyings)) (hr_p05 : RdE w0 5 encApiTariff A_p05 p0.account_.Tariffs) (hz_p05 : SW A_p05 n_p05 c_p05 (List.length p0.account_.Tariffs)) (r : Int) (hr : m_if_recycling_complaint_credit N d p0 = some r) :
  Calls Tryz.prog (m_if_recycling_complaint_credit_f d) [.agg #[], .agg #[.slice A_p01 n_p01 c_p01, .slice A_p02 n_p02 c_p02, .slice A_p03 n_p03 c_p03, .slice A_p04 n_p04 c_p04, .slice A_p05 n_p05 c_p05, .int .i64 p0.account_.Gap, .int .i64 p0.index_, .int .i64 p0.version_.From, .int .i64 p0.version_.Base, .int .i64 p0.version_.Empty, .int .i64 p0.version_.Kilo, .int .i64 p0.version_.Free, .int .i64 p0.item_.Kind, .int .i64 p0.item_.Ref, .int .i64 p0.item_.Count, .int .i64 p0.item_.Price, .int .i64 p0.item_.Amount, .int .i64 p0.rest_]].toArray w0 fun x w1 => ∃ u, x = .returned ((fun (r : Int) (_u : Unit) => .int .i64 r) r u) ∧ Hs w0 ((fun (_r : Int) (_u : Unit) => []) r u) w1 := by
 unfold m_if_recycling_complaint_credit at hr
 by_cases h91 : d = IfV.obj 91
 ·subst h91; exact m_complaint_never_credit_ok N w0 ComplaintNever.mk p0 A_p01 n_p01 c_p01 A_p02 n_p02 c_p02 A_p03 n_p03 c_p03 A_p04 n_p04 c_p04 A_p05 n_p05 c_p05 hr_p01 hz_p01 hr_p02 hz_p02 hr_p03 hz_p03 hr_p04 hz_p04 hr_p05 hz_p05 r hr
 rw [if_neg h91] at hr
 by_cases h92 : d = IfV.obj 92
 ·subst h92; exact m_complaint_twice_credit_ok N w0 ComplaintTwice.mk p0 A_p01 n_p01 c_p01 A_p02 n_p02 c_p02 A_p03 n_p03 c_p03 A_p04 n_p04 c_p04 A_p05 n_p05 c_p05 hr_p01 hz_p01 hr_p02 hz_p02 hr_p03 hz_p03 hr_p04 hz_p04 hr_p05 hz_p05 r hr
 rw [if_neg h92] at hr
 by_cases h93 : d = IfV.obj 93
 ·subst h93; exact m_complaint_weight_credit_ok N w0 ComplaintWeight.mk p0 A_p01 n_p01 c_p01 A_p02 n_p02 c_p02 A_p03 n_p03 c_p03 A_p04 n_p04 c_p04 A_p05 n_p05 c_p05 hr_p01 hz_p01 hr_p02 hz_p02 hr_p03 hz_p03 hr_p04 hz_p04 hr_p05 hz_p05 r hr
 rw [if_neg h93] at hr
 cases hr
/-- complaint.Decide -/
def m_complaint_Decide (N : Nat) (p0 : ApiAccount) (p1 : ApiBill) (p2 : ApiComplaint) (p3 : Int) : Option (ApiRuling × Int) :=
 Option.bind (m_bill_Check N p0) fun r9 => (if r9 ≠ 0 then
  some (((ApiRuling.mk 0 0), r9))
 else
  Option.bind (m_complaint_Check N p2) fun r12 => (if r12 ≠ 0 then
   some (((ApiRuling.mk 0 0), r12))
  else
   (if p2.Bill ≠ p1.ID then
    some (((ApiRuling.mk 0 0), (34 : Int)))
   else
    (if (((((decide (p3 < 0)) || (decide (36524 < p3))) || (decide (p1.When.From < 0))) || (decide (p1.When.To < p1.When.From))) || (decide (36525 < p1.When.To))) = true then
     some (((ApiRuling.mk 0 0), (1 : Int)))
    else
     Option.bind (m_complaint_readable N p1) fun r21 => (if r21 ≠ 0 then
      some (((ApiRuling.mk 0 0), r21))
     else
      Option.bind (m_complaint_gathered N p0 p1 p2) fun r24 => (if (!r24.2.2.2.2.2.2.2.2.2.2.2.2.2.2.2.2.2.2) = true then
       some (((ApiRuling.mk 0 7), (0 : Int)))
      else
       ck (I64 (p1.When.To + p3)) (
        ck (I64 ((p1.When.To + p3) * (86400 : Int))) (
         (if ((p1.When.To + p3) * (86400 : Int)) < p2.At then
          some (((ApiRuling.mk 0 31), (0 : Int)))
         else
          Option.bind (m_complaint_grounds N p2.Kind) fun r31 => Option.bind (m_if_recycling_complaint_credit N r31 (ComplaintMatter.mk (ApiAccount.mk r24.1 r24.2.1 r24.2.2.1 r24.2.2.2.1 r24.2.2.2.2.1 r24.2.2.2.2.2.1) r24.2.2.2.2.2.2.1 (ApiTariff.mk r24.2.2.2.2.2.2.2.1 r24.2.2.2.2.2.2.2.2.1 r24.2.2.2.2.2.2.2.2.2.1 r24.2.2.2.2.2.2.2.2.2.2.1 r24.2.2.2.2.2.2.2.2.2.2.2.1) (ApiItem.mk r24.2.2.2.2.2.2.2.2.2.2.2.2.1 r24.2.2.2.2.2.2.2.2.2.2.2.2.2.1 r24.2.2.2.2.2.2.2.2.2.2.2.2.2.2.1 r24.2.2.2.2.2.2.2.2.2.2.2.2.2.2.2.1 r24.2.2.2.2.2.2.2.2.2.2.2.2.2.2.2.2.1) r24.2.2.2.2.2.2.2.2.2.2.2.2.2.2.2.2.2.1)) fun r33 => (if 0 < r33 then
           some (((ApiRuling.mk r33 0), (0 : Int)))
          else
           some (((ApiRuling.mk 0 13), (0 : Int)))))))))))))
set_option maxHeartbeats 2000000 in
set_option maxRecDepth 20000 in
theorem m_complaint_Decide_ok (N : Nat) (w0 : World) (p0 : ApiAccount) (p1 : ApiBill) (p2 : ApiComplaint) (p3 : Int) (A_p01 : Option Addr) (n_p01 c_p01 : Nat) (A_p02 : Option Addr) (n_p02 c_p02 : Nat) (A_p03 : Option Addr) (n_p03 c_p03 : Nat) (A_p04 : Option Addr) (n_p04 c_p04 : Nat) (A_p05 : Option Addr) (n_p05 c_p05 : Nat) (A_p11 : Option Addr) (n_p11 c_p11 : Nat) (hr_p01 : RdE w0 2 encApiHousehold A_p01 p0.Households) (hz_p01 : SW A_p01 n_p01 c_p01 (List.length p0.Households)) (hr_p02 : RdE w0 5 encApiContainer A_p02 p0.Containers) (hz_p02 : SW A_p02 n_p02 c_p02 (List.length p0.Containers)) (hr_p03 : RdE w0 4 encApiAssign A_p03 p0.Assigns) (hz_p03 : SW A_p03 n_p03 c_p03 (List.length p0.Assigns)) (hr_p04 : RdE w0 7 encApiEmptying A_p04 p0.Emptyings) (hz_p04 : SW A_p04 n_p04 c_p04 (List.length p0.Emptyings)) (hr_p05 : RdE w0 5 encApiTariff A_p05 p0.Tariffs) (hz_p05 : SW A_p05 n_p05 c_p05 (List.length p0.Tariffs)) (hr_p11 : RdE w0 5 encApiItem A_p11 p1.Items) (hz_p11 : SW A_p11 n_p11 c_p11 (List.length p1.Items)) (r : ApiRuling × Int) (hr : m_complaint_Decide N p0 p1 p2 p3 = some r) :
  Calls Tryz.prog 6 [.agg #[.slice A_p01 n_p01 c_p01, .slice A_p02 n_p02 c_p02, .slice A_p03 n_p03 c_p03, .slice A_p04 n_p04 c_p04, .slice A_p05 n_p05 c_p05, .int .i64 p0.Gap], .agg #[.int .i64 p1.ID, .int .i64 p1.Household, .int .i64 p1.When.From, .int .i64 p1.When.To, .slice A_p11 n_p11 c_p11, .int .i64 p1.Total], .agg #[.int .i64 p2.Bill, .int .i64 p2.Item, .int .i64 p2.At, .int .i64 p2.Kind], .int .i64 p3].toArray w0 fun x w1 => ∃ u, x = .returned ((fun (r : ApiRuling × Int) (_u : Unit) => .tuple #[.agg #[.int .i64 r.1.Credit, .int .i64 r.1.Err], .int .i64 r.2]) r u) ∧ Hs w0 ((fun (_r : ApiRuling × Int) (_u : Unit) => []) r u) w1 := by
 refine calls_cm (n := 98) (R := fun r x w1 => ∃ u, x = .returned ((fun (r : ApiRuling × Int) (_u : Unit) => .tuple #[.agg #[.int .i64 r.1.Credit, .int .i64 r.1.Err], .int .i64 r.2]) r u) ∧ Hs w0 ((fun (_r : ApiRuling × Int) (_u : Unit) => []) r u) w1) Tryz.func6 rfl rfl (Nat.le_of_ble_eq_true rfl) ?_ r hr
 unfold m_complaint_Decide
 refine cq ?_
 refine cr ?_
 refine lm_box 4 [.slice _ _ _, .slice _ _ _, .slice _ _ _, .slice _ _ _, .slice _ _ _, .int .i64 _] (by kernel_rfl) rfl ?_
 intro b5
 refine lm_box 5 [.int .i64 _, .int .i64 _, .int .i64 _, .int .i64 _, .slice _ _ _, .int .i64 _] (by kernel_rfl) rfl ?_
 intro b6
 refine lm_box 6 [.int .i64 _, .int .i64 _, .int .i64 _, .int .i64 _] (by kernel_rfl) rfl ?_
 intro b7
 refine lm_alloc 8 [.int .i64 0, .int .i64 0] (v := .agg #[.int .i64 0, .int .i64 0]) (by kernel_rfl) (by kernel_rfl) rfl ?_
 intro b8
 refine lv 9 (by kernel_rfl) (fun w1 c1 => (oa (v := .int .i64 _) rfl)) ?_
 refine ln ?_
 refine xn ?_
 refine cq ?_
 refine cq ?_
 refine cr ?_
 refine lv 16 (by kernel_rfl) (fun w1 c1 => (op_loadR [.slice _ _ _, .slice _ _ _, .slice _ _ _, .slice _ _ _, .slice _ _ _, .int .i64 _] rfl (by kernel_rfl) (c1.cells 3 rfl rfl))) ?_
 refine lm_call 17 (V := (fun (r : Int) (_u : Unit) => .int .i64 r)) (HR := (fun (_r : Int) (_u : Unit) => [])) (by kernel_rfl) (fun w1 => op_call (by kernel_rfl)) (fun r1 hr1 w1 c1 => m_bill_Check_ok N w1 p0 A_p01 n_p01 c_p01 A_p02 n_p02 c_p02 A_p03 n_p03 c_p03 A_p04 n_p04 c_p04 A_p05 n_p05 c_p05 (hr_p01.old c1) hz_p01 (hr_p02.old c1) hz_p02 (hr_p03.old c1) hz_p03 (hr_p04.old c1) hz_p04 (hr_p05.old c1) hz_p05 r1 hr1) ?_
 intro r9 u10
 refine lv 10 (by kernel_rfl) (fun w1 c1 => (oa (v := .int .i64 _) rfl)) ?_
 refine ln ?_
 refine xn ?_
 refine cq ?_
 refine cr ?_
 refine lv 18 (by kernel_rfl) (fun w1 c1 => (om (v := .int .i64 _) rfl)) ?_
 refine lv 19 (by kernel_rfl) (fun w1 c1 => (op_neq rfl rfl)) ?_
 refine ln ?_
 refine xn ?_
 refine cm_cond (by kernel_rfl) rfl (fun h11 => ?_) (fun h11 => ?_)
 ·skip
  refine cq ?_
  refine cr ?_
  refine lv 20 (by kernel_rfl) (fun w1 c1 => (op_build (z := [.int .i64 0, .int .i64 0]) (tab := [(0, 1), (1, 1)]) (cs := [.int .i64 _, .int .i64 _]) [] (by kernel_rfl) (by kernel_rfl) fillOk_nil rfl)) ?_
  refine lv 21 (by kernel_rfl) (fun w1 c1 => (om (v := .int .i64 _) rfl)) ?_
  refine lm_storeA 0 [.int .i64 _, .int .i64 _] [_, _] (H' := [blkE _ _ [_, _], _, _, _]) (by kernel_rfl) rfl rfl (by kernel_rfl) rfl rfl (by kernel_rfl) rfl rfl ?_
  refine lv 9 (by kernel_rfl) (fun w1 c1 => (oa (v := .int .i64 _) rfl)) ?_
  refine ln ?_
  refine xn ?_
  refine cm_ret ?_
  refine xm_thenR ?_
  exact xm_retCT rfl (by kernel_rfl) (show _ = Value.pointer (some ⟨_, 0, none⟩) from rfl) (by kernel_rfl) (fun w1 c1 => c1.cells 0 (ds := [.int .i64 _, .int .i64 _]) rfl rfl) (by kernel_rfl) (show _ = Value.int .i64 _ from rfl) fun w1 c1 => ⟨(), rfl, hsub [] (by kernel_rfl) rfl w1 c1⟩
 ·skip
  refine cm_skip ?_
  refine xn ?_
  refine cq ?_
  refine cq ?_
  refine cr ?_
  refine lv 22 (by kernel_rfl) (fun w1 c1 => (op_loadR [.int .i64 _, .int .i64 _, .int .i64 _, .int .i64 _] rfl (by kernel_rfl) (c1.cells 1 rfl rfl))) ?_
  refine lm_call 23 (V := (fun (r : Int) (_u : Unit) => .int .i64 r)) (HR := (fun (_r : Int) (_u : Unit) => [])) (by kernel_rfl) (fun w1 => op_call (by kernel_rfl)) (fun r1 hr1 w1 c1 => m_complaint_Check_ok N w1 p2  r1 hr1) ?_
  intro r12 u13
  refine lv 11 (by kernel_rfl) (fun w1 c1 => (oa (v := .int .i64 _) rfl)) ?_
  refine ln ?_
  refine xn ?_
  refine cq ?_
  refine cr ?_
  refine lv 24 (by kernel_rfl) (fun w1 c1 => (om (v := .int .i64 _) rfl)) ?_
  refine lv 25 (by kernel_rfl) (fun w1 c1 => (op_neq rfl rfl)) ?_
  refine ln ?_
  refine xn ?_
  refine cm_cond (by kernel_rfl) rfl (fun h14 => ?_) (fun h14 => ?_)
  ·skip
   refine cq ?_
   refine cr ?_
   refine lv 26 (by kernel_rfl) (fun w1 c1 => (op_build (z := [.int .i64 0, .int .i64 0]) (tab := [(0, 1), (1, 1)]) (cs := [.int .i64 _, .int .i64 _]) [] (by kernel_rfl) (by kernel_rfl) fillOk_nil rfl)) ?_
   refine lv 27 (by kernel_rfl) (fun w1 c1 => (om (v := .int .i64 _) rfl)) ?_
   refine lm_storeA 0 [.int .i64 _, .int .i64 _] [_, _] (H' := [blkE _ _ [_, _], _, _, _]) (by kernel_rfl) rfl rfl (by kernel_rfl) rfl rfl (by kernel_rfl) rfl rfl ?_
   refine lv 9 (by kernel_rfl) (fun w1 c1 => (oa (v := .int .i64 _) rfl)) ?_
   refine ln ?_
   refine xn ?_
   refine cm_ret ?_
   refine xm_thenR ?_
   exact xm_retCT rfl (by kernel_rfl) (show _ = Value.pointer (some ⟨_, 0, none⟩) from rfl) (by kernel_rfl) (fun w1 c1 => c1.cells 0 (ds := [.int .i64 _, .int .i64 _]) rfl rfl) (by kernel_rfl) (show _ = Value.int .i64 _ from rfl) fun w1 c1 => ⟨(), rfl, hsub [] (by kernel_rfl) rfl w1 c1⟩
  ·skip
   refine cm_skip ?_
   refine xn ?_
   refine cq ?_
   refine cq ?_
   refine cr ?_
   refine lv 28 (by kernel_rfl) (fun w1 c1 => (oF (m := 0) (k := 0) rfl (by kernel_rfl) rfl)) ?_
   refine lv 29 (by kernel_rfl) (fun w1 c1 => (ol rfl (by kernel_rfl) (c1.cell 1 (u := .int .i64 _) rfl rfl))) ?_
   refine lv 30 (by kernel_rfl) (fun w1 c1 => (oF (m := 0) (k := 0) rfl (by kernel_rfl) rfl)) ?_
   refine lv 31 (by kernel_rfl) (fun w1 c1 => (ol rfl (by kernel_rfl) (c1.cell 2 (u := .int .i64 _) rfl rfl))) ?_
   refine lv 32 (by kernel_rfl) (fun w1 c1 => (op_neq rfl rfl)) ?_
   refine ln ?_
   refine xn ?_
   refine cm_cond (by kernel_rfl) rfl (fun h15 => ?_) (fun h15 => ?_)
   ·skip
    refine cq ?_
    refine cr ?_
    refine lv 33 (by kernel_rfl) (fun w1 c1 => (op_build (z := [.int .i64 0, .int .i64 0]) (tab := [(0, 1), (1, 1)]) (cs := [.int .i64 _, .int .i64 _]) [] (by kernel_rfl) (by kernel_rfl) fillOk_nil rfl)) ?_
    refine lm_storeA 0 [.int .i64 _, .int .i64 _] [_, _] (H' := [blkE _ _ [_, _], _, _, _]) (by kernel_rfl) rfl rfl (by kernel_rfl) rfl rfl (by kernel_rfl) rfl rfl ?_
    refine lv 9 (by kernel_rfl) (fun w1 c1 => (oa (v := .int .i64 _) rfl)) ?_
    refine ln ?_
    refine xn ?_
    refine cm_ret ?_
    refine xm_thenR ?_
    exact xm_retCT rfl (by kernel_rfl) (show _ = Value.pointer (some ⟨_, 0, none⟩) from rfl) (by kernel_rfl) (fun w1 c1 => c1.cells 0 (ds := [.int .i64 _, .int .i64 _]) rfl rfl) (by kernel_rfl) (show _ = Value.int .i64 _ from rfl) fun w1 c1 => ⟨(), rfl, hsub [] (by kernel_rfl) rfl w1 c1⟩
   ·skip
    refine cm_skip ?_
    refine xn ?_
    refine cq ?_
    refine cq ?_
    refine cm_cutE [(60, .bool (((((decide (p3 < 0)) || (decide (36524 < p3))) || (decide (p1.When.From < 0))) || (decide (p1.When.To < p1.When.From))) || (decide (36525 < p1.When.To))))] ?_ ?_
    ·skip
     refine wv 34 (by kernel_rfl) (fun w1 c1 => (om (v := .int .i64 _) rfl)) ?_
     refine wq_dec 35 (by kernel_rfl) (fun w1 c1 => (op_lss rfl rfl)) (fun h16 => ?_) (fun h16 => ?_)
     ·skip
      refine wv 36 (by kernel_rfl) (fun w1 c1 => (om (v := .bool true) rfl)) ?_
      refine wk 37 (by kernel_rfl) ?_
      refine wk 38 (by kernel_rfl) ?_
      refine wv 39 (by kernel_rfl) (fun w1 c1 => (opt (v := .bool true) rfl rfl)) ?_
      refine wv 40 (by kernel_rfl) (fun w1 c1 => (om (v := .bool true) rfl)) ?_
      refine wk 41 (by kernel_rfl) ?_
      refine wk 42 (by kernel_rfl) ?_
      refine wk 43 (by kernel_rfl) ?_
      refine wk 44 (by kernel_rfl) ?_
      refine wv 45 (by kernel_rfl) (fun w1 c1 => (opt (v := .bool true) rfl rfl)) ?_
      refine wv 46 (by kernel_rfl) (fun w1 c1 => (om (v := .bool true) rfl)) ?_
      refine wk 47 (by kernel_rfl) ?_
      refine wk 48 (by kernel_rfl) ?_
      refine wk 49 (by kernel_rfl) ?_
      refine wk 50 (by kernel_rfl) ?_
      refine wk 51 (by kernel_rfl) ?_
      refine wk 52 (by kernel_rfl) ?_
      refine wk 53 (by kernel_rfl) ?_
      refine wv 54 (by kernel_rfl) (fun w1 c1 => (opt (v := .bool true) rfl rfl)) ?_
      refine wv 55 (by kernel_rfl) (fun w1 c1 => (om (v := .bool true) rfl)) ?_
      refine wk 56 (by kernel_rfl) ?_
      refine wk 57 (by kernel_rfl) ?_
      refine wk 58 (by kernel_rfl) ?_
      refine wk 59 (by kernel_rfl) ?_
      refine wv 60 (by kernel_rfl) (fun w1 c1 => (opt (v := .bool true) rfl rfl)) ?_
      exact leaf_q (sub_out 27 _ rfl (by kernel_rfl) ⟨(congrArg Value.bool (by rw [decide_eq_true h16] <;> rfl)), trivial⟩)
     ·skip
      refine wv 36 (by kernel_rfl) (fun w1 c1 => (om (v := .bool false) rfl)) ?_
      refine wv 37 (by kernel_rfl) (fun w1 c1 => (om (v := .int .i64 _) rfl)) ?_
      refine wq_dec 38 (by kernel_rfl) (fun w1 c1 => (op_gtr rfl rfl)) (fun h17 => ?_) (fun h17 => ?_)
      ·skip
       refine wv 39 (by kernel_rfl) (fun w1 c1 => (opf (v := .bool true) rfl rfl)) ?_
       refine wv 40 (by kernel_rfl) (fun w1 c1 => (om (v := .bool true) rfl)) ?_
       refine wk 41 (by kernel_rfl) ?_
       refine wk 42 (by kernel_rfl) ?_
       refine wk 43 (by kernel_rfl) ?_
       refine wk 44 (by kernel_rfl) ?_
       refine wv 45 (by kernel_rfl) (fun w1 c1 => (opt (v := .bool true) rfl rfl)) ?_
       refine wv 46 (by kernel_rfl) (fun w1 c1 => (om (v := .bool true) rfl)) ?_
       refine wk 47 (by kernel_rfl) ?_
       refine wk 48 (by kernel_rfl) ?_
       refine wk 49 (by kernel_rfl) ?_
       refine wk 50 (by kernel_rfl) ?_
       refine wk 51 (by kernel_rfl) ?_
       refine wk 52 (by kernel_rfl) ?_
       refine wk 53 (by kernel_rfl) ?_
       refine wv 54 (by kernel_rfl) (fun w1 c1 => (opt (v := .bool true) rfl rfl)) ?_
       refine wv 55 (by kernel_rfl) (fun w1 c1 => (om (v := .bool true) rfl)) ?_
       refine wk 56 (by kernel_rfl) ?_
       refine wk 57 (by kernel_rfl) ?_
       refine wk 58 (by kernel_rfl) ?_
       refine wk 59 (by kernel_rfl) ?_
       refine wv 60 (by kernel_rfl) (fun w1 c1 => (opt (v := .bool true) rfl rfl)) ?_
       exact leaf_q (sub_out 27 _ rfl (by kernel_rfl) ⟨(congrArg Value.bool (by rw [decide_eq_false h16, decide_eq_true h17] <;> rfl)), trivial⟩)
      ·skip
       refine wv 39 (by kernel_rfl) (fun w1 c1 => (opf (v := .bool false) rfl rfl)) ?_
       refine wv 40 (by kernel_rfl) (fun w1 c1 => (om (v := .bool false) rfl)) ?_
       refine wv 41 (by kernel_rfl) (fun w1 c1 => (oF (m := 2) (k := 2) rfl (by kernel_rfl) rfl)) ?_
       refine wv 42 (by kernel_rfl) (fun w1 c1 => (oF (m := 0) (k := 2) rfl (by kernel_rfl) rfl)) ?_
       refine wv 43 (by kernel_rfl) (fun w1 c1 => (ol rfl (by kernel_rfl) (c1.cell 2 (u := .int .i64 _) rfl rfl))) ?_
       refine wq_dec 44 (by kernel_rfl) (fun w1 c1 => (op_lss rfl rfl)) (fun h18 => ?_) (fun h18 => ?_)
       ·skip
        refine wv 45 (by kernel_rfl) (fun w1 c1 => (opf (v := .bool true) rfl rfl)) ?_
        refine wv 46 (by kernel_rfl) (fun w1 c1 => (om (v := .bool true) rfl)) ?_
        refine wk 47 (by kernel_rfl) ?_
        refine wk 48 (by kernel_rfl) ?_
        refine wk 49 (by kernel_rfl) ?_
        refine wk 50 (by kernel_rfl) ?_
        refine wk 51 (by kernel_rfl) ?_
        refine wk 52 (by kernel_rfl) ?_
        refine wk 53 (by kernel_rfl) ?_
        refine wv 54 (by kernel_rfl) (fun w1 c1 => (opt (v := .bool true) rfl rfl)) ?_
        refine wv 55 (by kernel_rfl) (fun w1 c1 => (om (v := .bool true) rfl)) ?_
        refine wk 56 (by kernel_rfl) ?_
        refine wk 57 (by kernel_rfl) ?_
        refine wk 58 (by kernel_rfl) ?_
        refine wk 59 (by kernel_rfl) ?_
        refine wv 60 (by kernel_rfl) (fun w1 c1 => (opt (v := .bool true) rfl rfl)) ?_
        exact leaf_q (sub_out 27 _ rfl (by kernel_rfl) ⟨(congrArg Value.bool (by rw [decide_eq_false h16, decide_eq_false h17, decide_eq_true h18] <;> rfl)), trivial⟩)
       ·skip
        refine wv 45 (by kernel_rfl) (fun w1 c1 => (opf (v := .bool false) rfl rfl)) ?_
        refine wv 46 (by kernel_rfl) (fun w1 c1 => (om (v := .bool false) rfl)) ?_
        refine wv 47 (by kernel_rfl) (fun w1 c1 => (oF (m := 2) (k := 2) rfl (by kernel_rfl) rfl)) ?_
        refine wv 48 (by kernel_rfl) (fun w1 c1 => (oF (m := 0) (k := 2) rfl (by kernel_rfl) rfl)) ?_
        refine wv 49 (by kernel_rfl) (fun w1 c1 => (ol rfl (by kernel_rfl) (c1.cell 2 (u := .int .i64 _) rfl rfl))) ?_
        refine wv 50 (by kernel_rfl) (fun w1 c1 => (oF (m := 2) (k := 2) rfl (by kernel_rfl) rfl)) ?_
        refine wv 51 (by kernel_rfl) (fun w1 c1 => (oF (m := 1) (k := 3) rfl (by kernel_rfl) rfl)) ?_
        refine wv 52 (by kernel_rfl) (fun w1 c1 => (ol rfl (by kernel_rfl) (c1.cell 2 (u := .int .i64 _) rfl rfl))) ?_
        refine wq_dec 53 (by kernel_rfl) (fun w1 c1 => (op_gtr rfl rfl)) (fun h19 => ?_) (fun h19 => ?_)
        ·skip
         refine wv 54 (by kernel_rfl) (fun w1 c1 => (opf (v := .bool true) rfl rfl)) ?_
         refine wv 55 (by kernel_rfl) (fun w1 c1 => (om (v := .bool true) rfl)) ?_
         refine wk 56 (by kernel_rfl) ?_
         refine wk 57 (by kernel_rfl) ?_
         refine wk 58 (by kernel_rfl) ?_
         refine wk 59 (by kernel_rfl) ?_
         refine wv 60 (by kernel_rfl) (fun w1 c1 => (opt (v := .bool true) rfl rfl)) ?_
         exact leaf_q (sub_out 27 _ rfl (by kernel_rfl) ⟨(congrArg Value.bool (by rw [decide_eq_false h16, decide_eq_false h17, decide_eq_false h18, decide_eq_true h19] <;> rfl)), trivial⟩)
        ·skip
         refine wv 54 (by kernel_rfl) (fun w1 c1 => (opf (v := .bool false) rfl rfl)) ?_
         refine wv 55 (by kernel_rfl) (fun w1 c1 => (om (v := .bool false) rfl)) ?_
         refine wv 56 (by kernel_rfl) (fun w1 c1 => (oF (m := 2) (k := 2) rfl (by kernel_rfl) rfl)) ?_
         refine wv 57 (by kernel_rfl) (fun w1 c1 => (oF (m := 1) (k := 3) rfl (by kernel_rfl) rfl)) ?_
         refine wv 58 (by kernel_rfl) (fun w1 c1 => (ol rfl (by kernel_rfl) (c1.cell 2 (u := .int .i64 _) rfl rfl))) ?_
         refine wv 59 (by kernel_rfl) (fun w1 c1 => (op_gtr rfl rfl)) ?_
         refine wv 60 (by kernel_rfl) (fun w1 c1 => (opf (v := .bool _) rfl rfl)) ?_
         exact leaf_q (sub_out 27 _ rfl (by kernel_rfl) ⟨(congrArg Value.bool (by rw [decide_eq_false h16, decide_eq_false h17, decide_eq_false h18, decide_eq_false h19] <;> rfl)), trivial⟩)
    refine xn ?_
    refine cm_condB (by kernel_rfl) rfl (fun h20 => ?_) (fun h20 => ?_)
    ·skip
     refine cq ?_
     refine cr ?_
     refine lv 61 (by kernel_rfl) (fun w1 c1 => (op_build (z := [.int .i64 0, .int .i64 0]) (tab := [(0, 1), (1, 1)]) (cs := [.int .i64 _, .int .i64 _]) [] (by kernel_rfl) (by kernel_rfl) fillOk_nil rfl)) ?_
     refine lm_storeA 0 [.int .i64 _, .int .i64 _] [_, _] (H' := [blkE _ _ [_, _], _, _, _]) (by kernel_rfl) rfl rfl (by kernel_rfl) rfl rfl (by kernel_rfl) rfl rfl ?_
     refine lv 9 (by kernel_rfl) (fun w1 c1 => (oa (v := .int .i64 _) rfl)) ?_
     refine ln ?_
     refine xn ?_
     refine cm_ret ?_
     refine xm_thenR ?_
     exact xm_retCT rfl (by kernel_rfl) (show _ = Value.pointer (some ⟨_, 0, none⟩) from rfl) (by kernel_rfl) (fun w1 c1 => c1.cells 0 (ds := [.int .i64 _, .int .i64 _]) rfl rfl) (by kernel_rfl) (show _ = Value.int .i64 _ from rfl) fun w1 c1 => ⟨(), rfl, hsub [] (by kernel_rfl) rfl w1 c1⟩
    ·skip
     refine cm_skip ?_
     refine xn ?_
     refine cq ?_
     refine cq ?_
     refine cr ?_
     refine lv 62 (by kernel_rfl) (fun w1 c1 => (op_loadR [.int .i64 _, .int .i64 _, .int .i64 _, .int .i64 _, .slice _ _ _, .int .i64 _] rfl (by kernel_rfl) (c1.cells 2 rfl rfl))) ?_
     refine lm_call 63 (V := (fun (r : Int) (_u : Unit) => .int .i64 r)) (HR := (fun (_r : Int) (_u : Unit) => [])) (by kernel_rfl) (fun w1 => op_call (by kernel_rfl)) (fun r1 hr1 w1 c1 => m_complaint_readable_ok N w1 p1 A_p11 n_p11 c_p11 (hr_p11.old c1) hz_p11 r1 hr1) ?_
     intro r21 u22
     refine lv 12 (by kernel_rfl) (fun w1 c1 => (oa (v := .int .i64 _) rfl)) ?_
     refine ln ?_
     refine xn ?_
     refine cq ?_
     refine cr ?_
     refine lv 64 (by kernel_rfl) (fun w1 c1 => (om (v := .int .i64 _) rfl)) ?_
     refine lv 65 (by kernel_rfl) (fun w1 c1 => (op_neq rfl rfl)) ?_
     refine ln ?_
     refine xn ?_
     refine cm_cond (by kernel_rfl) rfl (fun h23 => ?_) (fun h23 => ?_)
     ·skip
      refine cq ?_
      refine cr ?_
      refine lv 66 (by kernel_rfl) (fun w1 c1 => (op_build (z := [.int .i64 0, .int .i64 0]) (tab := [(0, 1), (1, 1)]) (cs := [.int .i64 _, .int .i64 _]) [] (by kernel_rfl) (by kernel_rfl) fillOk_nil rfl)) ?_
      refine lv 67 (by kernel_rfl) (fun w1 c1 => (om (v := .int .i64 _) rfl)) ?_
      refine lm_storeA 0 [.int .i64 _, .int .i64 _] [_, _] (H' := [blkE _ _ [_, _], _, _, _]) (by kernel_rfl) rfl rfl (by kernel_rfl) rfl rfl (by kernel_rfl) rfl rfl ?_
      refine lv 9 (by kernel_rfl) (fun w1 c1 => (oa (v := .int .i64 _) rfl)) ?_
      refine ln ?_
      refine xn ?_
      refine cm_ret ?_
      refine xm_thenR ?_
      exact xm_retCT rfl (by kernel_rfl) (show _ = Value.pointer (some ⟨_, 0, none⟩) from rfl) (by kernel_rfl) (fun w1 c1 => c1.cells 0 (ds := [.int .i64 _, .int .i64 _]) rfl rfl) (by kernel_rfl) (show _ = Value.int .i64 _ from rfl) fun w1 c1 => ⟨(), rfl, hsub [] (by kernel_rfl) rfl w1 c1⟩
     ·skip
      refine cm_skip ?_
      refine xn ?_
      refine cq ?_
      refine cr ?_
      refine lv 69 (by kernel_rfl) (fun w1 c1 => (op_loadR [.slice _ _ _, .slice _ _ _, .slice _ _ _, .slice _ _ _, .slice _ _ _, .int .i64 _] rfl (by kernel_rfl) (c1.cells 3 rfl rfl))) ?_
      refine lv 70 (by kernel_rfl) (fun w1 c1 => (op_loadR [.int .i64 _, .int .i64 _, .int .i64 _, .int .i64 _, .slice _ _ _, .int .i64 _] rfl (by kernel_rfl) (c1.cells 2 rfl rfl))) ?_
      refine lv 71 (by kernel_rfl) (fun w1 c1 => (op_loadR [.int .i64 _, .int .i64 _, .int .i64 _, .int .i64 _] rfl (by kernel_rfl) (c1.cells 1 rfl rfl))) ?_
      refine lm_callH 72 (V := (fun (r : (List ApiHousehold) × (List ApiContainer) × (List ApiAssign) × (List ApiEmptying) × (List ApiTariff) × Int × Int × Int × Int × Int × Int × Int × Int × Int × Int × Int × Int × Int × Bool) (u : (Option Addr) × Nat × Nat × (Option Addr) × Nat × Nat × (Option Addr) × Nat × Nat × (Option Addr) × Nat × Nat × (Option Addr) × Nat × Nat) => (.tuple #[.agg #[.slice u.1 u.2.1 u.2.2.1, .slice u.2.2.2.1 u.2.2.2.2.1 u.2.2.2.2.2.1, .slice u.2.2.2.2.2.2.1 u.2.2.2.2.2.2.2.1 u.2.2.2.2.2.2.2.2.1, .slice u.2.2.2.2.2.2.2.2.2.1 u.2.2.2.2.2.2.2.2.2.2.1 u.2.2.2.2.2.2.2.2.2.2.2.1, .slice u.2.2.2.2.2.2.2.2.2.2.2.2.1 u.2.2.2.2.2.2.2.2.2.2.2.2.2.1 u.2.2.2.2.2.2.2.2.2.2.2.2.2.2, .int .i64 r.2.2.2.2.2.1, .int .i64 r.2.2.2.2.2.2.1, .int .i64 r.2.2.2.2.2.2.2.1, .int .i64 r.2.2.2.2.2.2.2.2.1, .int .i64 r.2.2.2.2.2.2.2.2.2.1, .int .i64 r.2.2.2.2.2.2.2.2.2.2.1, .int .i64 r.2.2.2.2.2.2.2.2.2.2.2.1, .int .i64 r.2.2.2.2.2.2.2.2.2.2.2.2.1, .int .i64 r.2.2.2.2.2.2.2.2.2.2.2.2.2.1, .int .i64 r.2.2.2.2.2.2.2.2.2.2.2.2.2.2.1, .int .i64 r.2.2.2.2.2.2.2.2.2.2.2.2.2.2.2.1, .int .i64 r.2.2.2.2.2.2.2.2.2.2.2.2.2.2.2.2.1, .int .i64 r.2.2.2.2.2.2.2.2.2.2.2.2.2.2.2.2.2.1], .bool r.2.2.2.2.2.2.2.2.2.2.2.2.2.2.2.2.2.2] : Value))) [] [blkE b8 42 [.int .i64 0, .int .i64 0], blkE b7 35 [.int .i64 p2.Bill, .int .i64 p2.Item, .int .i64 p2.At, .int .i64 p2.Kind], blkE b6 33 [.int .i64 p1.ID, .int .i64 p1.Household, .int .i64 p1.When.From, .int .i64 p1.When.To, .slice A_p11 n_p11 c_p11, .int .i64 p1.Total], blkE b5 28 [.slice A_p01 n_p01 c_p01, .slice A_p02 n_p02 c_p02, .slice A_p03 n_p03 c_p03, .slice A_p04 n_p04 c_p04, .slice A_p05 n_p05 c_p05, .int .i64 p0.Gap]] (O := (fun (r : (List ApiHousehold) × (List ApiContainer) × (List ApiAssign) × (List ApiEmptying) × (List ApiTariff) × Int × Int × Int × Int × Int × Int × Int × Int × Int × Int × Int × Int × Int × Bool) (u : (Option Addr) × Nat × Nat × (Option Addr) × Nat × Nat × (Option Addr) × Nat × Nat × (Option Addr) × Nat × Nat × (Option Addr) × Nat × Nat) => [roE (RdE w0 2 encApiHousehold u.1 r.1 ∧ SW u.1 u.2.1 u.2.2.1 (List.length r.1)), roE (RdE w0 5 encApiContainer u.2.2.2.1 r.2.1 ∧ SW u.2.2.2.1 u.2.2.2.2.1 u.2.2.2.2.2.1 (List.length r.2.1)), roE (RdE w0 4 encApiAssign u.2.2.2.2.2.2.1 r.2.2.1 ∧ SW u.2.2.2.2.2.2.1 u.2.2.2.2.2.2.2.1 u.2.2.2.2.2.2.2.2.1 (List.length r.2.2.1)), roE (RdE w0 7 encApiEmptying u.2.2.2.2.2.2.2.2.2.1 r.2.2.2.1 ∧ SW u.2.2.2.2.2.2.2.2.2.1 u.2.2.2.2.2.2.2.2.2.2.1 u.2.2.2.2.2.2.2.2.2.2.2.1 (List.length r.2.2.2.1)), roE (RdE w0 5 encApiTariff u.2.2.2.2.2.2.2.2.2.2.2.2.1 r.2.2.2.2.1 ∧ SW u.2.2.2.2.2.2.2.2.2.2.2.2.1 u.2.2.2.2.2.2.2.2.2.2.2.2.2.1 u.2.2.2.2.2.2.2.2.2.2.2.2.2.2 (List.length r.2.2.2.2.1))])) (hsub [0, 1, 2, 3] (by kernel_rfl) rfl) (by kernel_rfl) (fun w1 => op_call (by kernel_rfl)) (fun r1 hr1 w1 c1 => m_complaint_gathered_ok N w0 w1 [blkE b8 42 [.int .i64 0, .int .i64 0], blkE b7 35 [.int .i64 p2.Bill, .int .i64 p2.Item, .int .i64 p2.At, .int .i64 p2.Kind], blkE b6 33 [.int .i64 p1.ID, .int .i64 p1.Household, .int .i64 p1.When.From, .int .i64 p1.When.To, .slice A_p11 n_p11 c_p11, .int .i64 p1.Total], blkE b5 28 [.slice A_p01 n_p01 c_p01, .slice A_p02 n_p02 c_p02, .slice A_p03 n_p03 c_p03, .slice A_p04 n_p04 c_p04, .slice A_p05 n_p05 c_p05, .int .i64 p0.Gap]] p0 p1 p2 A_p01 n_p01 c_p01 A_p02 n_p02 c_p02 A_p03 n_p03 c_p03 A_p04 n_p04 c_p04 A_p05 n_p05 c_p05 A_p11 n_p11 c_p11 hr_p01 hz_p01 hr_p02 hz_p02 hr_p03 hz_p03 hr_p04 hz_p04 hr_p05 hz_p05 hr_p11 hz_p11 c1 r1 hr1) ?_
      intro r24 u25
      refine lv 68 (by kernel_rfl) (fun w1 c1 => (om (v := .tuple _) rfl)) ?_
      refine lv 73 (by kernel_rfl) (fun w1 c1 => (op_extract (v := .agg _) rfl rfl)) ?_
      refine lv 74 (by kernel_rfl) (fun w1 c1 => (op_extract (v := .bool _) rfl rfl)) ?_
      refine lm_alloc 13 [.slice none 0 0, .slice none 0 0, .slice none 0 0, .slice none 0 0, .slice none 0 0, .int .i64 0, .int .i64 0, .int .i64 0, .int .i64 0, .int .i64 0, .int .i64 0, .int .i64 0, .int .i64 0, .int .i64 0, .int .i64 0, .int .i64 0, .int .i64 0, .int .i64 0] (v := .agg #[.slice none 0 0, .slice none 0 0, .slice none 0 0, .slice none 0 0, .slice none 0 0, .int .i64 0, .int .i64 0, .int .i64 0, .int .i64 0, .int .i64 0, .int .i64 0, .int .i64 0, .int .i64 0, .int .i64 0, .int .i64 0, .int .i64 0, .int .i64 0, .int .i64 0]) (by kernel_rfl) (by kernel_rfl) rfl ?_
      intro b26
      refine lm_storeA 0 [.slice _ _ _, .slice _ _ _, .slice _ _ _, .slice _ _ _, .slice _ _ _, .int .i64 _, .int .i64 _, .int .i64 _, .int .i64 _, .int .i64 _, .int .i64 _, .int .i64 _, .int .i64 _, .int .i64 _, .int .i64 _, .int .i64 _, .int .i64 _, .int .i64 _] [_, _, _, _, _, _, _, _, _, _, _, _, _, _, _, _, _, _] (H' := [blkE _ _ [_, _, _, _, _, _, _, _, _, _, _, _, _, _, _, _, _, _], _, _, _, _, _, _, _, _, _]) (by kernel_rfl) rfl rfl (by kernel_rfl) rfl rfl (by kernel_rfl) rfl rfl ?_
      refine lv 14 (by kernel_rfl) (fun w1 c1 => (oa (v := .bool _) rfl)) ?_
      refine ln ?_
      refine xn ?_
      refine cq ?_
      refine cq ?_
      refine cr ?_
      refine lv 75 (by kernel_rfl) (fun w1 c1 => (om (v := .bool _) rfl)) ?_
      refine lv 76 (by kernel_rfl) (fun w1 c1 => (op_not rfl)) ?_
      refine ln ?_
      refine xn ?_
      refine cm_condB (by kernel_rfl) rfl (fun h27 => ?_) (fun h27 => ?_)
      ·skip
       refine cq ?_
       refine cr ?_
       refine lv 77 (by kernel_rfl) (fun w1 c1 => (op_build (z := [.int .i64 0, .int .i64 0]) (tab := [(0, 1), (1, 1)]) (cs := [.int .i64 _, .int .i64 _]) [(1, [.int .i64 _])] (by kernel_rfl) (by kernel_rfl) (fillOk_cons rfl rfl rfl fillOk_nil) rfl)) ?_
       refine lm_storeA 6 [.int .i64 _, .int .i64 _] [_, _] (H' := [_, _, _, _, _, _, blkE _ _ [_, _], _, _, _]) (by kernel_rfl) rfl rfl (by kernel_rfl) rfl rfl (by kernel_rfl) rfl rfl ?_
       refine lv 9 (by kernel_rfl) (fun w1 c1 => (oa (v := .int .i64 _) rfl)) ?_
       refine ln ?_
       refine xn ?_
       refine cm_ret ?_
       refine xm_thenR ?_
       exact xm_retCT rfl (by kernel_rfl) (show _ = Value.pointer (some ⟨_, 0, none⟩) from rfl) (by kernel_rfl) (fun w1 c1 => c1.cells 6 (ds := [.int .i64 _, .int .i64 _]) rfl rfl) (by kernel_rfl) (show _ = Value.int .i64 _ from rfl) fun w1 c1 => ⟨(), rfl, hsub [] (by kernel_rfl) rfl w1 c1⟩
      ·skip
       refine cm_skip ?_
       refine xn ?_
       refine cq ?_
       refine cq ?_
       refine cr ?_
       refine lv 78 (by kernel_rfl) (fun w1 c1 => (oF (m := 2) (k := 2) rfl (by kernel_rfl) rfl)) ?_
       refine lv 79 (by kernel_rfl) (fun w1 c1 => (ol rfl (by kernel_rfl) (c1.cell 7 (u := .int .i64 _) rfl rfl))) ?_
       refine lv 80 (by kernel_rfl) (fun w1 c1 => (oF (m := 2) (k := 2) rfl (by kernel_rfl) rfl)) ?_
       refine lv 81 (by kernel_rfl) (fun w1 c1 => (oF (m := 1) (k := 3) rfl (by kernel_rfl) rfl)) ?_
       refine lv 82 (by kernel_rfl) (fun w1 c1 => (ol rfl (by kernel_rfl) (c1.cell 8 (u := .int .i64 _) rfl rfl))) ?_
       refine lv 83 (by kernel_rfl) (fun w1 c1 => (om (v := .int .i64 _) rfl)) ?_
       refine lm_ck (fun h28 => ?_)
       refine lv 84 (by kernel_rfl) (fun w1 c1 => (op_add rfl rfl h28)) ?_
       refine lm_ck (fun h29 => ?_)
       refine lv 85 (by kernel_rfl) (fun w1 c1 => (op_mul rfl rfl h29)) ?_
       refine lv 86 (by kernel_rfl) (fun w1 c1 => (op_gtr rfl rfl)) ?_
       refine ln ?_
       refine xn ?_
       refine cm_cond (by kernel_rfl) rfl (fun h30 => ?_) (fun h30 => ?_)
       ·skip
        refine cq ?_
        refine cr ?_
        refine lv 87 (by kernel_rfl) (fun w1 c1 => (op_build (z := [.int .i64 0, .int .i64 0]) (tab := [(0, 1), (1, 1)]) (cs := [.int .i64 _, .int .i64 _]) [(1, [.int .i64 _])] (by kernel_rfl) (by kernel_rfl) (fillOk_cons rfl rfl rfl fillOk_nil) rfl)) ?_
        refine lm_storeA 6 [.int .i64 _, .int .i64 _] [_, _] (H' := [_, _, _, _, _, _, blkE _ _ [_, _], _, _, _]) (by kernel_rfl) rfl rfl (by kernel_rfl) rfl rfl (by kernel_rfl) rfl rfl ?_
        refine lv 9 (by kernel_rfl) (fun w1 c1 => (oa (v := .int .i64 _) rfl)) ?_
        refine ln ?_
        refine xn ?_
        refine cm_ret ?_
        refine xm_thenR ?_
        exact xm_retCT rfl (by kernel_rfl) (show _ = Value.pointer (some ⟨_, 0, none⟩) from rfl) (by kernel_rfl) (fun w1 c1 => c1.cells 6 (ds := [.int .i64 _, .int .i64 _]) rfl rfl) (by kernel_rfl) (show _ = Value.int .i64 _ from rfl) fun w1 c1 => ⟨(), rfl, hsub [] (by kernel_rfl) rfl w1 c1⟩
       ·skip
        refine cm_skip ?_
        refine xn ?_
        refine cq ?_
        refine cq ?_
        refine cm_bind fun r31 h32 => ?_
        refine cm_bind fun r33 h34 => ?_
        refine cm_drawn [(15, .int .i64 r33)] (by kernel_rfl) (by kernel_rfl) ?_ ?_
        ·skip
         refine wv 88 (by kernel_rfl) (fun w1 c1 => (oF (m := 3) (k := 3) rfl (by kernel_rfl) rfl)) ?_
         refine wv 89 (by kernel_rfl) (fun w1 c1 => (ol rfl (by kernel_rfl) (c1.cell 7 (u := .int .i64 _) rfl rfl))) ?_
         refine wq_call 90 (by kernel_rfl) (fun w1 c1 => op_call (by kernel_rfl)) (fun w1 c1 => (m_complaint_grounds_ok N w1 p2.Kind  r31 h32).mono (fun _ _ ⟨_, hx, hu⟩ => ⟨hx, c1.call hu⟩)) ?_
         refine wv 91 (by kernel_rfl) (fun w1 c1 => (op_loadR [.slice _ _ _, .slice _ _ _, .slice _ _ _, .slice _ _ _, .slice _ _ _, .int .i64 _, .int .i64 _, .int .i64 _, .int .i64 _, .int .i64 _, .int .i64 _, .int .i64 _, .int .i64 _, .int .i64 _, .int .i64 _, .int .i64 _, .int .i64 _, .int .i64 _] rfl (by kernel_rfl) (c1.cells 0 rfl rfl))) ?_
         refine wq_call 92 (by kernel_rfl) (fun w1 c1 => m_if_recycling_complaint_credit_op N r31 (ComplaintMatter.mk (ApiAccount.mk r24.1 r24.2.1 r24.2.2.1 r24.2.2.2.1 r24.2.2.2.2.1 r24.2.2.2.2.2.1) r24.2.2.2.2.2.2.1 (ApiTariff.mk r24.2.2.2.2.2.2.2.1 r24.2.2.2.2.2.2.2.2.1 r24.2.2.2.2.2.2.2.2.2.1 r24.2.2.2.2.2.2.2.2.2.2.1 r24.2.2.2.2.2.2.2.2.2.2.2.1) (ApiItem.mk r24.2.2.2.2.2.2.2.2.2.2.2.2.1 r24.2.2.2.2.2.2.2.2.2.2.2.2.2.1 r24.2.2.2.2.2.2.2.2.2.2.2.2.2.2.1 r24.2.2.2.2.2.2.2.2.2.2.2.2.2.2.2.1 r24.2.2.2.2.2.2.2.2.2.2.2.2.2.2.2.2.1) r24.2.2.2.2.2.2.2.2.2.2.2.2.2.2.2.2.2.1) h34 (by rfl)) (fun w1 c1 => (m_if_recycling_complaint_credit_ok N w1 r31 (ComplaintMatter.mk (ApiAccount.mk r24.1 r24.2.1 r24.2.2.1 r24.2.2.2.1 r24.2.2.2.2.1 r24.2.2.2.2.2.1) r24.2.2.2.2.2.2.1 (ApiTariff.mk r24.2.2.2.2.2.2.2.1 r24.2.2.2.2.2.2.2.2.1 r24.2.2.2.2.2.2.2.2.2.1 r24.2.2.2.2.2.2.2.2.2.2.1 r24.2.2.2.2.2.2.2.2.2.2.2.1) (ApiItem.mk r24.2.2.2.2.2.2.2.2.2.2.2.2.1 r24.2.2.2.2.2.2.2.2.2.2.2.2.2.1 r24.2.2.2.2.2.2.2.2.2.2.2.2.2.2.1 r24.2.2.2.2.2.2.2.2.2.2.2.2.2.2.2.1 r24.2.2.2.2.2.2.2.2.2.2.2.2.2.2.2.2.1) r24.2.2.2.2.2.2.2.2.2.2.2.2.2.2.2.2.2.1) u25.1 u25.2.1 u25.2.2.1 u25.2.2.2.1 u25.2.2.2.2.1 u25.2.2.2.2.2.1 u25.2.2.2.2.2.2.1 u25.2.2.2.2.2.2.2.1 u25.2.2.2.2.2.2.2.2.1 u25.2.2.2.2.2.2.2.2.2.1 u25.2.2.2.2.2.2.2.2.2.2.1 u25.2.2.2.2.2.2.2.2.2.2.2.1 u25.2.2.2.2.2.2.2.2.2.2.2.2.1 u25.2.2.2.2.2.2.2.2.2.2.2.2.2.1 u25.2.2.2.2.2.2.2.2.2.2.2.2.2.2 ((c1.ro 1 rfl).1.old c1) (c1.ro 1 rfl).2 ((c1.ro 2 rfl).1.old c1) (c1.ro 2 rfl).2 ((c1.ro 3 rfl).1.old c1) (c1.ro 3 rfl).2 ((c1.ro 4 rfl).1.old c1) (c1.ro 4 rfl).2 ((c1.ro 5 rfl).1.old c1) (c1.ro 5 rfl).2 r33 h34).mono (fun _ _ ⟨_, hx, hu⟩ => ⟨hx, c1.call hu⟩)) ?_
         refine wv 15 (by kernel_rfl) (fun w1 c1 => (oa (v := .int .i64 _) rfl)) ?_
         exact leaf_q (sub_out 6 _ rfl (by kernel_rfl) ⟨rfl, trivial⟩)
        refine xn ?_
        refine cq ?_
        refine cr ?_
        refine lv 93 (by kernel_rfl) (fun w1 c1 => (om (v := .int .i64 _) rfl)) ?_
        refine lv 94 (by kernel_rfl) (fun w1 c1 => (op_gtr rfl rfl)) ?_
        refine ln ?_
        refine xn ?_
        refine cm_cond (by kernel_rfl) rfl (fun h35 => ?_) (fun h35 => ?_)
        ·skip
         refine cq ?_
         refine cr ?_
         refine lv 95 (by kernel_rfl) (fun w1 c1 => (om (v := .int .i64 _) rfl)) ?_
         refine lv 96 (by kernel_rfl) (fun w1 c1 => (op_build (z := [.int .i64 0, .int .i64 0]) (tab := [(0, 1), (1, 1)]) (cs := [.int .i64 _, .int .i64 _]) [(0, [.int .i64 _])] (by kernel_rfl) (by kernel_rfl) (fillOk_cons rfl rfl rfl fillOk_nil) rfl)) ?_
         refine lm_storeA 6 [.int .i64 _, .int .i64 _] [_, _] (H' := [_, _, _, _, _, _, blkE _ _ [_, _], _, _, _]) (by kernel_rfl) rfl rfl (by kernel_rfl) rfl rfl (by kernel_rfl) rfl rfl ?_
         refine lv 9 (by kernel_rfl) (fun w1 c1 => (oa (v := .int .i64 _) rfl)) ?_
         refine ln ?_
         refine xn ?_
         refine cm_ret ?_
         refine xm_thenR ?_
         exact xm_retCT rfl (by kernel_rfl) (show _ = Value.pointer (some ⟨_, 0, none⟩) from rfl) (by kernel_rfl) (fun w1 c1 => c1.cells 6 (ds := [.int .i64 _, .int .i64 _]) rfl rfl) (by kernel_rfl) (show _ = Value.int .i64 _ from rfl) fun w1 c1 => ⟨(), rfl, hsub [] (by kernel_rfl) rfl w1 c1⟩
        ·skip
         refine cm_skip ?_
         refine xn ?_
         refine cq ?_
         refine cr ?_
         refine lv 97 (by kernel_rfl) (fun w1 c1 => (op_build (z := [.int .i64 0, .int .i64 0]) (tab := [(0, 1), (1, 1)]) (cs := [.int .i64 _, .int .i64 _]) [(1, [.int .i64 _])] (by kernel_rfl) (by kernel_rfl) (fillOk_cons rfl rfl rfl fillOk_nil) rfl)) ?_
         refine lm_storeA 6 [.int .i64 _, .int .i64 _] [_, _] (H' := [_, _, _, _, _, _, blkE _ _ [_, _], _, _, _]) (by kernel_rfl) rfl rfl (by kernel_rfl) rfl rfl (by kernel_rfl) rfl rfl ?_
         refine lv 9 (by kernel_rfl) (fun w1 c1 => (oa (v := .int .i64 _) rfl)) ?_
         refine ln ?_
         refine xn ?_
         refine cm_ret ?_
         exact xm_retCT rfl (by kernel_rfl) (show _ = Value.pointer (some ⟨_, 0, none⟩) from rfl) (by kernel_rfl) (fun w1 c1 => c1.cells 6 (ds := [.int .i64 _, .int .i64 _]) rfl rfl) (by kernel_rfl) (show _ = Value.int .i64 _ from rfl) fun w1 c1 => ⟨(), rfl, hsub [] (by kernel_rfl) rfl w1 c1⟩
end Go.Proofs.YtljogldcejcikaaGreat
