/- Models of functions, and that the code follows them. Written by deco.py. -/
import Derived.Test.YtpbgfdmkebnjgaaGreatDoorBGr
namespace Go.Proofs.YtpbgfdmkebnjgaaGreatDoor
open Go.RowKit
set_option linter.unusedSectionVars false
variable [JF]

/-- recyclinglaw54.has -/
def m_recyclinglaw54_has (N : Nat) (p0 : ByteArray) (p1 : ByteArray) : Option (Bool) :=
 (andThen
  (loopM (fun (s47 : Int) =>
   ck (I64 (s47 + (ByteArray.size p1 : Int))) (
    (if (s47 + (ByteArray.size p1 : Int)) ≤ (ByteArray.size p0 : Int) then
     ck (I64 (s47 + (ByteArray.size p1 : Int))) (
      ck ((0 : Int) ≤ s47 ∧ s47 ≤ (s47 + (ByteArray.size p1 : Int)) ∧ (s47 + (ByteArray.size p1 : Int)) ≤ (ByteArray.size p0 : Int)) (
       (if (ByteArray.extract p0 (Int.toNat s47) (Int.toNat (s47 + (ByteArray.size p1 : Int)))) = p1 then
        some (.done (.done (true)))
       else
        ck (I64 (s47 + (1 : Int))) (
         some (.next (s47 + (1 : Int)))))))
    else
     some (.done (.next ()))))) N (0 : Int))
 fun (_s29 : Unit) =>
  some (false))
set_option maxRecDepth 20000 in
theorem m_recyclinglaw54_has_ok (N : Nat) (w0 : World) (p0 : ByteArray) (p1 : ByteArray)   (r : Bool) (hr : m_recyclinglaw54_has N p0 p1 = some r) :
  Ret Tryz.prog 31 [.string p0, .string p1] w0 (fun (r : Bool) (_u : Unit) => .bool r) (fun (_r : Bool) (_u : Unit) => []) r := by
 refine calls_v (n := 24) r hr Tryz.func31 ?_
 unfold m_recyclinglaw54_has
 refine sr ?_
 refine la 1 ((4, .bool false) :: _) rfl ?_
 refine nn ?_
 refine cm_join (σ := Unit) (ξ := Unit) (fun s29 u30 => []) (fun s29 u30 => []) ?_ ?_
 ·refine sr ?_
  refine la 1 ((5, .int .i64 _) :: _) rfl ?_
  refine nn ?_
  refine cm_block ?_
  refine cm_loop (σ := Int) (ξ := Unit) (fun s47 u48 => [(0, .string p0), (1, .string p1), (5, .int .i64 s47)]) (fun s47 u48 => []) () ?_ ?_ ?_
  ·exact sq
  ·exact sh []
  intro s47 u48
  refine cm_seq ?_
  refine sr ?_
  refine la 2 ((7, .string _) :: (6, .int .i64 _) :: _) rfl ?_
  refine v_ 8 (fun _ _ => op_lenS rfl (by kernel_rfl)) ?_
  refine lm_ck (fun h49 => ?_)
  refine v_ 9 (fun _ _ => op_add rfl rfl h49) ?_
  refine la 1 ((10, .string _) :: _) rfl ?_
  refine v_ 11 (fun _ _ => op_lenS rfl (by kernel_rfl)) ?_
  refine la 1 ((12, .bool _) :: _) rfl ?_
  refine nn ?_
  refine cm_cond (by kernel_rfl) rfl (fun h50 => ?_) (fun h50 => ?_)
  ·refine sk ?_
   refine cm_seq ?_
   refine cm_block ?_
   refine sr ?_
   refine la 4 ((18, .string _) :: (17, .int .i64 _) :: (16, .int .i64 _) :: (15, .string _) :: _) rfl ?_
   refine v_ 19 (fun _ _ => op_lenS rfl (by kernel_rfl)) ?_
   refine lm_ck (fun h51 => ?_)
   refine v_ 20 (fun _ _ => op_add rfl rfl h51) ?_
   refine lm_ck (fun h52 => ?_)
   refine v_ 21 (fun _ _ => op_sliceSLH rfl rfl rfl (by kernel_rfl) h52) ?_
   refine la 1 ((22, .string _) :: _) rfl ?_
   refine v_ 23 (fun _ _ => op_eqlS rfl rfl) ?_
   refine nn ?_
   refine cm_cond (by kernel_rfl) rfl (fun h53 => ?_) (fun h53 => ?_)
   ·refine sr ?_
    refine la 1 ((4, .bool true) :: _) rfl ?_
    refine nn ?_
    refine cm_ret ?_
    refine xm_inR ?_
    refine xm_thenR ?_
    refine xm_lret ?_
    refine xm_inR ?_
    refine xm_lret ?_
    exact xm_retT rfl (by kernel_rfl) (show _ = Value.bool true from rfl) fun w1 c1 => ⟨(), rfl, hsub [] (by kernel_rfl) rfl w1 c1⟩
   ·refine cm_skip ?_
    refine xm_inN ?_
    refine xm_next ?_
    refine cm_region ?_
    refine la 1 ((13, .int .i64 _) :: _) rfl ?_
    refine lm_ck (fun h54 => ?_)
    refine v_ 14 (fun _ _ => op_add rfl rfl h54) ?_
    refine la 1 ((5, .int .i64 _) :: _) rfl ?_
    refine lm_nil ?_
    exact xm_lnext () sq (sh [])
  ·refine cm_exit ?_
   refine xm_thenE ?_
   refine xm_lexit ?_
   refine xm_here ?_
   exact xm_lnext () sub_nil (sh [])
 intro s29 u30
 refine sr ?_
 refine la 1 ((4, .bool false) :: _) rfl ?_
 refine nn ?_
 refine cm_ret ?_
 exact xm_retT rfl (by kernel_rfl) (show _ = Value.bool false from rfl) fun w1 c1 => ⟨(), rfl, hsub [] (by kernel_rfl) rfl w1 c1⟩
/-- recyclinglaw54.BillWords -/
def m_recyclinglaw54_BillWords (N : Nat) (p0 : ApiAccount) (p1 : Recyclinglaw54Ask) : Option (Bool) :=
 Option.bind (m_recyclinglaw54_great N p0) fun r7 => (if r7 = true then
  Option.bind (m_recyclinglaw54_awake N) fun r10 => some (r10)
 else
  Option.bind (m_bill_Make N p0 p1.ID p1.Household p1.When) fun r12 => (andThen
   (loopM (fun (s182 : Int) =>
    (if ((decide (s182 < (List.length r12.1.Items : Int))) && (decide (r12.2 = 0))) = true then
     Option.bind (m_bill_Explain N p0 r12.1 s182) fun r186 => (andThen
      (ck ((0 : Int) ≤ s182 ∧ s182 < (List.length r12.1.Items : Int)) (
       (if (ix r12.1.Items s182).Kind = 2 then
        some (.next (⟨#[101, 109, 112, 116, 121, 105, 110, 103, 32]⟩ : ByteArray))
       else
        some (.next (⟨#[98, 97, 115, 101, 32]⟩ : ByteArray)))))
     fun (s190 : ByteArray) =>
      (andThen
       (ck ((0 : Int) ≤ s182 ∧ s182 < (List.length r12.1.Items : Int)) (
        (if (ix r12.1.Items s182).Kind = 3 then
         some (.next (⟨#[119, 101, 105, 103, 104, 116, 32, 111, 102, 32, 101, 109, 112, 116, 121, 105, 110, 103, 32]⟩ : ByteArray))
        else
         some (.next s190))))
      fun (s196 : ByteArray) =>
       ck ((!(decide (r186.2 ≠ 0))) = true → (0 : Int) ≤ s182 ∧ s182 < (List.length r12.1.Items : Int)) (
        ck ((!((decide (r186.2 ≠ 0)) || (decide ((ix r12.1.Items s182).Kind < 1)))) = true → (0 : Int) ≤ s182 ∧ s182 < (List.length r12.1.Items : Int)) (
         ck ((!((((decide (r186.2 ≠ 0)) || (decide ((ix r12.1.Items s182).Kind < 1))) || (decide (3 < (ix r12.1.Items s182).Kind))) || (decide ((ByteArray.size r186.1 : Int) ≤ (ByteArray.size s196 : Int))))) = true → (0 : Int) ≤ (ByteArray.size s196 : Int) ∧ (ByteArray.size s196 : Int) ≤ (ByteArray.size r186.1 : Int)) (
          callIf ((!(((((decide (r186.2 ≠ 0)) || (decide ((ix r12.1.Items s182).Kind < 1))) || (decide (3 < (ix r12.1.Items s182).Kind))) || (decide ((ByteArray.size r186.1 : Int) ≤ (ByteArray.size s196 : Int)))) || (decide ((ByteArray.extract r186.1 0 (Int.toNat (ByteArray.size s196 : Int))) ≠ s196)))) = true) (m_recyclinglaw54_has N r186.1 (⟨#[10]⟩ : ByteArray)) fun r203 => callIf ((!((((((decide (r186.2 ≠ 0)) || (decide ((ix r12.1.Items s182).Kind < 1))) || (decide (3 < (ix r12.1.Items s182).Kind))) || (decide ((ByteArray.size r186.1 : Int) ≤ (ByteArray.size s196 : Int)))) || (decide ((ByteArray.extract r186.1 0 (Int.toNat (ByteArray.size s196 : Int))) ≠ s196))) || r203)) = true) (m_recyclinglaw54_has N r186.1 (⟨#[58, 32]⟩ : ByteArray)) fun r205 => (if (((((((decide (r186.2 ≠ 0)) || (decide ((ix r12.1.Items s182).Kind < 1))) || (decide (3 < (ix r12.1.Items s182).Kind))) || (decide ((ByteArray.size r186.1 : Int) ≤ (ByteArray.size s196 : Int)))) || (decide ((ByteArray.extract r186.1 0 (Int.toNat (ByteArray.size s196 : Int))) ≠ s196))) || r203) || (!r205)) = true then
           some (.done (.done (false)))
          else
           ck (I64 (s182 + (1 : Int))) (
            some (.next (s182 + (1 : Int))))))))))
    else
     some (.done (.next ())))) N (0 : Int))
  fun (_s114 : Unit) =>
   Option.bind (m_bill_Explain N p0 r12.1 (List.length r12.1.Items : Int)) fun r215 => callIf (decide (r215.2 ≠ 0) = true) (m_recyclinglaw54_awake N) fun r217 => some (((decide (r215.2 ≠ 0)) && r217))))
set_option maxHeartbeats 2000000 in
set_option maxRecDepth 20000 in
theorem m_recyclinglaw54_BillWords_ok (N : Nat) (w0 : World) (p0 : ApiAccount) (p1 : Recyclinglaw54Ask) (A_p01 : Option Addr) (n_p01 c_p01 : Nat) (A_p02 : Option Addr) (n_p02 c_p02 : Nat) (A_p03 : Option Addr) (n_p03 c_p03 : Nat) (A_p04 : Option Addr) (n_p04 c_p04 : Nat) (A_p05 : Option Addr) (n_p05 c_p05 : Nat) (hr_p01 : RdE w0 2 encApiHousehold A_p01 p0.Households) (hz_p01 : SW A_p01 n_p01 c_p01 (List.length p0.Households)) (hr_p02 : RdE w0 5 encApiContainer A_p02 p0.Containers) (hz_p02 : SW A_p02 n_p02 c_p02 (List.length p0.Containers)) (hr_p03 : RdE w0 4 encApiAssign A_p03 p0.Assigns) (hz_p03 : SW A_p03 n_p03 c_p03 (List.length p0.Assigns)) (hr_p04 : RdE w0 7 encApiEmptying A_p04 p0.Emptyings) (hz_p04 : SW A_p04 n_p04 c_p04 (List.length p0.Emptyings)) (hr_p05 : RdE w0 5 encApiTariff A_p05 p0.Tariffs) (hz_p05 : SW A_p05 n_p05 c_p05 (List.length p0.Tariffs)) (ht : Tab w0) (r : Bool) (hr : m_recyclinglaw54_BillWords N p0 p1 = some r) :
  Ret Tryz.prog 11 [.agg #[.slice A_p01 n_p01 c_p01, .slice A_p02 n_p02 c_p02, .slice A_p03 n_p03 c_p03, .slice A_p04 n_p04 c_p04, .slice A_p05 n_p05 c_p05, .int .i64 p0.Gap], .agg #[.int .i64 p1.ID, .int .i64 p1.Household, .int .i64 p1.When.From, .int .i64 p1.When.To]] w0 (fun (r : Bool) (_u : Unit) => .bool r) (fun (_r : Bool) (_u : Unit) => []) r := by
 refine calls_v (n := 117) r hr Tryz.func11 ?_
 unfold m_recyclinglaw54_BillWords
 refine sr ?_
 refine lm_box 2 [.slice _ _ _, .slice _ _ _, .slice _ _ _, .slice _ _ _, .slice _ _ _, .int .i64 _] (by kernel_rfl) rfl ?_
 intro b5
 refine lm_box 3 [.int .i64 _, .int .i64 _, .int .i64 _, .int .i64 _] (by kernel_rfl) rfl ?_
 intro b6
 refine la 1 ((4, .bool false) :: _) rfl ?_
 refine nn ?_
 refine cm_seq ?_
 refine sr ?_
 refine v_ 13 (fun _ c1 => oR [.slice _ _ _, .slice _ _ _, .slice _ _ _, .slice _ _ _, .slice _ _ _, .int .i64 _] (c1.cells 1 rfl rfl)) ?_
 refine lm_call 14 (V := (fun (r : Bool) (_u : Unit) => .bool r)) (HR := (fun (_r : Bool) (_u : Unit) => [])) (by kernel_rfl) (fun w1 => op_call (by kernel_rfl)) (fun r1 hr1 w1 c1 => m_recyclinglaw54_great_ok N w1 p0 A_p01 n_p01 c_p01 A_p02 n_p02 c_p02 A_p03 n_p03 c_p03 A_p04 n_p04 c_p04 A_p05 n_p05 c_p05 (hr_p01.old c1) hz_p01 (hr_p02.old c1) hz_p02 (hr_p03.old c1) hz_p03 (hr_p04.old c1) hz_p04 (hr_p05.old c1) hz_p05 r1 hr1) ?_
 intro r7 u8
 refine nn ?_
 refine cm_condB (by kernel_rfl) rfl (fun h9 => ?_) (fun h9 => ?_)
 ·refine sr ?_
  refine lm_call 15 (V := (fun (r : Bool) (_u : Unit) => .bool r)) (HR := (fun (_r : Bool) (_u : Unit) => [])) (by kernel_rfl) (fun w1 => op_call (by kernel_rfl)) (fun r1 hr1 w1 c1 => m_recyclinglaw54_awake_ok N w1  (hs_tab ht c1) r1 hr1) ?_
  intro r10 u11
  refine la 1 ((4, .bool _) :: _) rfl ?_
  refine nn ?_
  refine cm_ret ?_
  refine xm_thenR ?_
  exact xm_retT rfl (by kernel_rfl) (show _ = Value.bool _ from rfl) fun w1 c1 => ⟨(), rfl, hsub [] (by kernel_rfl) rfl w1 c1⟩
 ·refine sk ?_
  refine sr ?_
  refine v_ 17 (fun _ c1 => oR [.slice _ _ _, .slice _ _ _, .slice _ _ _, .slice _ _ _, .slice _ _ _, .int .i64 _] (c1.cells 1 rfl rfl)) ?_
  refine v_ 18 (fun _ _ => oF 0 0 rfl) ?_
  refine v_ 19 (fun _ c1 => oL (c1.cell 0 (u := .int .i64 _) rfl rfl)) ?_
  refine v_ 20 (fun _ _ => oF 1 1 rfl) ?_
  refine v_ 21 (fun _ c1 => oL (c1.cell 0 (u := .int .i64 _) rfl rfl)) ?_
  refine v_ 22 (fun _ _ => oF 2 2 rfl) ?_
  refine v_ 23 (fun _ c1 => oR [.int .i64 _, .int .i64 _] (c1.cells 0 rfl rfl)) ?_
  refine lm_call 24 (V := (fun (r : ApiBill × Int) (u : (Option Addr) × Nat × Nat) => .tuple #[.agg #[.int .i64 r.1.ID, .int .i64 r.1.Household, .int .i64 r.1.When.From, .int .i64 r.1.When.To, .slice u.1 u.2.1 u.2.2, .int .i64 r.1.Total], .int .i64 r.2])) (HR := (fun (r : ApiBill × Int) (u : (Option Addr) × Nat × Nat) => [ownE 66 5 encApiItem u.1 u.2.1 u.2.2 r.1.Items])) (by kernel_rfl) (fun w1 => op_call (by kernel_rfl)) (fun r1 hr1 w1 c1 => m_bill_Make_ok N w1 p0 p1.ID p1.Household p1.When A_p01 n_p01 c_p01 A_p02 n_p02 c_p02 A_p03 n_p03 c_p03 A_p04 n_p04 c_p04 A_p05 n_p05 c_p05 (hr_p01.old c1) hz_p01 (hr_p02.old c1) hz_p02 (hr_p03.old c1) hz_p03 (hr_p04.old c1) hz_p04 (hr_p05.old c1) hz_p05 r1 hr1) ?_
  intro r12 u13
  refine la 3 ((26, .int .i64 _) :: (25, .agg _) :: (16, .tuple _) :: _) rfl ?_
  refine lm_alloc 5 [.int .i64 0, .int .i64 0, .int .i64 0, .int .i64 0, .slice none 0 0, .int .i64 0] (v := .agg #[.int .i64 0, .int .i64 0, .int .i64 0, .int .i64 0, .slice none 0 0, .int .i64 0]) (by kernel_rfl) (by kernel_rfl) rfl ?_
  intro b14
  refine lm_storeA 0 [.int .i64 _, .int .i64 _, .int .i64 _, .int .i64 _, .slice _ _ _, .int .i64 _] [_, _, _, _, _, _] (H' := [blkE _ _ [_, _, _, _, _, _], _, _, _]) (by kernel_rfl) rfl rfl (by kernel_rfl) rfl rfl (by kernel_rfl) rfl rfl ?_
  refine la 1 ((6, .int .i64 _) :: _) rfl ?_
  refine nn ?_
  refine cm_join (σ := Unit) (ξ := Unit) (fun s114 u115 => [(2, .pointer (some ⟨b5, 0, none⟩)), (5, .pointer (some ⟨b14, 0, none⟩))]) (fun s114 u115 => [blkE b5 28 [.slice A_p01 n_p01 c_p01, .slice A_p02 n_p02 c_p02, .slice A_p03 n_p03 c_p03, .slice A_p04 n_p04 c_p04, .slice A_p05 n_p05 c_p05, .int .i64 p0.Gap], blkE b14 39 [.int .i64 r12.1.ID, .int .i64 r12.1.Household, .int .i64 r12.1.When.From, .int .i64 r12.1.When.To, .slice u13.1 u13.2.1 u13.2.2, .int .i64 r12.1.Total], ownE 66 5 encApiItem u13.1 u13.2.1 u13.2.2 r12.1.Items]) ?_ ?_
  ·refine sr ?_
   refine la 1 ((7, .int .i64 _) :: _) rfl ?_
   refine nn ?_
   refine cm_block ?_
   refine cm_loop (σ := Int) (ξ := Unit) (fun s182 u183 => [(2, .pointer (some ⟨b5, 0, none⟩)), (5, .pointer (some ⟨b14, 0, none⟩)), (6, .int .i64 r12.2), (7, .int .i64 s182)]) (fun s182 u183 => [blkE b5 28 [.slice A_p01 n_p01 c_p01, .slice A_p02 n_p02 c_p02, .slice A_p03 n_p03 c_p03, .slice A_p04 n_p04 c_p04, .slice A_p05 n_p05 c_p05, .int .i64 p0.Gap], blkE b14 39 [.int .i64 r12.1.ID, .int .i64 r12.1.Household, .int .i64 r12.1.When.From, .int .i64 r12.1.When.To, .slice u13.1 u13.2.1 u13.2.2, .int .i64 r12.1.Total], ownE 66 5 encApiItem u13.1 u13.2.1 u13.2.2 r12.1.Items]) () ?_ ?_ ?_
   ·exact sq
   ·exact sh [3, 0, 1]
   intro s182 u183
   refine cm_seq ?_
   refine cm_seq ?_
   refine cm_cutE [(35, .bool ((decide (s182 < (List.length r12.1.Items : Int))) && (decide (r12.2 = 0))))] ?_ ?_
   ·refine qa 1 ((27, .int .i64 _) :: _) rfl ?_
    refine q_ 28 (fun _ _ => oF 4 4 rfl) ?_
    refine q_ 29 (fun _ c1 => oL (c1.cell 1 (u := .slice _ _ _) rfl rfl)) ?_
    refine q_ 30 (fun _ c1 => op_lenN rfl (by kernel_rfl) (c1.ownZ 2 rfl).2.2) ?_
    refine qd 31 (fun _ _ => op_lss rfl rfl) (fun h184 => ?_) (fun h184 => ?_)
    ·refine qa 4 ((35, .bool _) :: (34, .bool _) :: (33, .int .i64 _) :: (32, .bool true) :: _) rfl ?_
     exact leaf_q (sub_out 9 _ rfl (by kernel_rfl) ⟨(congrArg Value.bool (by rw [decide_eq_true h184] <;> rfl)), trivial⟩)
    ·refine qa 4 ((35, .bool false) :: (34, undef) :: (33, undef) :: (32, .bool false) :: _) rfl ?_
     exact leaf_q (sub_out 9 _ rfl (by kernel_rfl) ⟨(congrArg Value.bool (by rw [decide_eq_false h184] <;> rfl)), trivial⟩)
   refine xm_next ?_
   refine cm_condB (by kernel_rfl) rfl (fun h185 => ?_) (fun h185 => ?_)
   ·refine sk ?_
    refine cm_seq ?_
    refine cm_block ?_
    refine sr ?_
    refine v_ 39 (fun _ c1 => oR [.slice _ _ _, .slice _ _ _, .slice _ _ _, .slice _ _ _, .slice _ _ _, .int .i64 _] (c1.cells 0 rfl rfl)) ?_
    refine v_ 40 (fun _ c1 => oR [.int .i64 _, .int .i64 _, .int .i64 _, .int .i64 _, .slice _ _ _, .int .i64 _] (c1.cells 1 rfl rfl)) ?_
    refine la 1 ((41, .int .i64 _) :: _) rfl ?_
    refine lm_call 42 (V := (fun (r : ByteArray × Int) (_u : Unit) => .tuple #[.string r.1, .int .i64 r.2])) (HR := (fun (_r : ByteArray × Int) (_u : Unit) => [])) (by kernel_rfl) (fun w1 => op_call (by kernel_rfl)) (fun r1 hr1 w1 c1 => m_bill_Explain_ok N w1 p0 r12.1 s182 A_p01 n_p01 c_p01 A_p02 n_p02 c_p02 A_p03 n_p03 c_p03 A_p04 n_p04 c_p04 A_p05 n_p05 c_p05 u13.1 u13.2.1 u13.2.2 (hr_p01.old c1) hz_p01 (hr_p02.old c1) hz_p02 (hr_p03.old c1) hz_p03 (hr_p04.old c1) hz_p04 (hr_p05.old c1) hz_p05 (c1.own 2 rfl encApiItem_len) (c1.ownZ 2 rfl) (hs_tab ht c1) r1 hr1) ?_
    intro r186 u187
    refine la 5 ((9, .int .i64 _) :: (8, .string _) :: (44, .int .i64 _) :: (43, .string _) :: (38, .tuple _) :: _) rfl ?_
    refine nn ?_
    refine sr ?_
    refine la 1 ((10, .string _) :: _) rfl ?_
    refine nn ?_
    refine cm_join (σ := ByteArray) (ξ := Unit) (fun s190 u191 => [(2, .pointer (some ⟨b5, 0, none⟩)), (5, .pointer (some ⟨b14, 0, none⟩)), (6, .int .i64 r12.2), (7, .int .i64 s182), (8, .string r186.1), (9, .int .i64 r186.2), (10, .string s190)]) (fun s190 u191 => [blkE b5 28 [.slice A_p01 n_p01 c_p01, .slice A_p02 n_p02 c_p02, .slice A_p03 n_p03 c_p03, .slice A_p04 n_p04 c_p04, .slice A_p05 n_p05 c_p05, .int .i64 p0.Gap], blkE b14 39 [.int .i64 r12.1.ID, .int .i64 r12.1.Household, .int .i64 r12.1.When.From, .int .i64 r12.1.When.To, .slice u13.1 u13.2.1 u13.2.2, .int .i64 r12.1.Total], ownE 66 5 encApiItem u13.1 u13.2.1 u13.2.2 r12.1.Items]) ?_ ?_
    ·refine sr ?_
     refine v_ 45 (fun _ _ => oF 4 4 rfl) ?_
     refine v_ 46 (fun _ c1 => oL (c1.cell 1 (u := .slice _ _ _) rfl rfl)) ?_
     refine la 1 ((47, .int .i64 _) :: _) rfl ?_
     refine lm_ck (fun h192 => ?_)
     refine v_ 48 (fun _ c1 => oI 5 rfl rfl ((c1.own 2 rfl encApiItem_len).addr h192.1 h192.2) (c1.ownZ 2 rfl).2.2 h192) ?_
     refine v_ 49 (fun _ _ => op_field0 rfl (by kernel_rfl)) ?_
     refine v_ 50 (fun _ c1 => oL (v := .int .i64 ((ix r12.1.Items s182).Kind)) ((c1.own 2 rfl encApiItem_len).cell0 h192.1 h192.2 rfl)) ?_
     refine la 1 ((51, .bool _) :: _) rfl ?_
     refine nn ?_
     refine cm_cond (by kernel_rfl) rfl (fun h193 => ?_) (fun h193 => ?_)
     ·refine cm_region ?_
      refine la 1 ((10, .string _) :: _) rfl ?_
      refine lm_nil ?_
      exact xm_lnext () sq (sh [0, 1, 2])
     ·refine cm_skip ?_
      exact xm_lnext () sq (sh [0, 1, 2])
    intro s190 u191
    refine cm_join (σ := ByteArray) (ξ := Unit) (fun s196 u197 => [(2, .pointer (some ⟨b5, 0, none⟩)), (5, .pointer (some ⟨b14, 0, none⟩)), (6, .int .i64 r12.2), (7, .int .i64 s182), (8, .string r186.1), (9, .int .i64 r186.2), (10, .string s196)]) (fun s196 u197 => [blkE b5 28 [.slice A_p01 n_p01 c_p01, .slice A_p02 n_p02 c_p02, .slice A_p03 n_p03 c_p03, .slice A_p04 n_p04 c_p04, .slice A_p05 n_p05 c_p05, .int .i64 p0.Gap], blkE b14 39 [.int .i64 r12.1.ID, .int .i64 r12.1.Household, .int .i64 r12.1.When.From, .int .i64 r12.1.When.To, .slice u13.1 u13.2.1 u13.2.2, .int .i64 r12.1.Total], ownE 66 5 encApiItem u13.1 u13.2.1 u13.2.2 r12.1.Items]) ?_ ?_
    ·refine sr ?_
     refine v_ 52 (fun _ _ => oF 4 4 rfl) ?_
     refine v_ 53 (fun _ c1 => oL (c1.cell 1 (u := .slice _ _ _) rfl rfl)) ?_
     refine la 1 ((54, .int .i64 _) :: _) rfl ?_
     refine lm_ck (fun h198 => ?_)
     refine v_ 55 (fun _ c1 => oI 5 rfl rfl ((c1.own 2 rfl encApiItem_len).addr h198.1 h198.2) (c1.ownZ 2 rfl).2.2 h198) ?_
     refine v_ 56 (fun _ _ => op_field0 rfl (by kernel_rfl)) ?_
     refine v_ 57 (fun _ c1 => oL (v := .int .i64 ((ix r12.1.Items s182).Kind)) ((c1.own 2 rfl encApiItem_len).cell0 h198.1 h198.2 rfl)) ?_
     refine la 1 ((58, .bool _) :: _) rfl ?_
     refine nn ?_
     refine cm_cond (by kernel_rfl) rfl (fun h199 => ?_) (fun h199 => ?_)
     ·refine cm_region ?_
      refine la 1 ((10, .string _) :: _) rfl ?_
      refine lm_nil ?_
      exact xm_lnext () sq (sh [0, 1, 2])
     ·refine cm_skip ?_
      exact xm_lnext () sq (sh [0, 1, 2])
    intro s196 u197
    refine cm_seq ?_
    refine cm_ck (fun h200 => ?_)
    refine cm_ck (fun h201 => ?_)
    refine cm_ck (fun h202 => ?_)
    refine cm_callIf fun r203 h204 => ?_
    refine cm_callIf fun r205 h206 => ?_
    refine cm_cutE [(102, .bool (((((((decide (r186.2 ≠ 0)) || (decide ((ix r12.1.Items s182).Kind < 1))) || (decide (3 < (ix r12.1.Items s182).Kind))) || (decide ((ByteArray.size r186.1 : Int) ≤ (ByteArray.size s196 : Int)))) || (decide ((ByteArray.extract r186.1 0 (Int.toNat (ByteArray.size s196 : Int))) ≠ s196))) || r203) || (!r205)))] ?_ ?_
    ·refine qa 1 ((59, .int .i64 _) :: _) rfl ?_
     refine qd 60 (fun _ _ => op_neq rfl rfl) (fun h207 => ?_) (fun h207 => ?_)
     ·refine qa 42 ((102, .bool true) :: (101, undef) :: (100, undef) :: (99, undef) :: (98, .bool true) :: (97, .bool true) :: (96, undef) :: (95, undef) :: (94, .bool true) :: (93, .bool true) :: (92, undef) :: (91, undef) :: (90, undef) :: (89, undef) :: (88, undef) :: (87, undef) :: (86, .bool true) :: (85, .bool true) :: (84, undef) :: (83, undef) :: (82, undef) :: (81, undef) :: (80, undef) :: (79, .bool true) :: (78, .bool true) :: (77, undef) :: (76, undef) :: (75, undef) :: (74, undef) :: (73, undef) :: (72, undef) :: (71, undef) :: (70, .bool true) :: (69, .bool true) :: (68, undef) :: (67, undef) :: (66, undef) :: (65, undef) :: (64, undef) :: (63, undef) :: (62, undef) :: (61, .bool true) :: _) rfl ?_
      exact leaf_q (sub_out 44 _ rfl (by kernel_rfl) ⟨(congrArg Value.bool (by rw [decide_eq_true h207] <;> rfl)), trivial⟩)
     ·refine qa 1 ((61, .bool false) :: _) rfl ?_
      refine q_ 62 (fun _ _ => oF 4 4 rfl) ?_
      refine q_ 63 (fun _ c1 => oL (c1.cell 1 (u := .slice _ _ _) rfl rfl)) ?_
      refine qa 1 ((64, .int .i64 _) :: _) rfl ?_
      refine q_ 65 (fun _ c1 => oI 5 rfl rfl ((c1.own 2 rfl encApiItem_len).addr (h200 (by rw [decide_eq_false h207] <;> rfl)).1 (h200 (by rw [decide_eq_false h207] <;> rfl)).2) (c1.ownZ 2 rfl).2.2 (h200 (by rw [decide_eq_false h207] <;> rfl))) ?_
      refine q_ 66 (fun _ _ => op_field0 rfl (by kernel_rfl)) ?_
      refine q_ 67 (fun _ c1 => oL (v := .int .i64 ((ix r12.1.Items s182).Kind)) ((c1.own 2 rfl encApiItem_len).cell0 (h200 (by rw [decide_eq_false h207] <;> rfl)).1 (h200 (by rw [decide_eq_false h207] <;> rfl)).2 rfl)) ?_
      refine qd 68 (fun _ _ => op_lss rfl rfl) (fun h208 => ?_) (fun h208 => ?_)
      ·refine qa 34 ((102, .bool true) :: (101, undef) :: (100, undef) :: (99, undef) :: (98, .bool true) :: (97, .bool true) :: (96, undef) :: (95, undef) :: (94, .bool true) :: (93, .bool true) :: (92, undef) :: (91, undef) :: (90, undef) :: (89, undef) :: (88, undef) :: (87, undef) :: (86, .bool true) :: (85, .bool true) :: (84, undef) :: (83, undef) :: (82, undef) :: (81, undef) :: (80, undef) :: (79, .bool true) :: (78, .bool true) :: (77, undef) :: (76, undef) :: (75, undef) :: (74, undef) :: (73, undef) :: (72, undef) :: (71, undef) :: (70, .bool true) :: (69, .bool true) :: _) rfl ?_
       exact leaf_q (sub_out 44 _ rfl (by kernel_rfl) ⟨(congrArg Value.bool (by rw [decide_eq_false h207, decide_eq_true h208] <;> rfl)), trivial⟩)
      ·refine qa 2 ((70, .bool false) :: (69, .bool false) :: _) rfl ?_
       refine q_ 71 (fun _ _ => oF 4 4 rfl) ?_
       refine q_ 72 (fun _ c1 => oL (c1.cell 1 (u := .slice _ _ _) rfl rfl)) ?_
       refine qa 1 ((73, .int .i64 _) :: _) rfl ?_
       refine q_ 74 (fun _ c1 => oI 5 rfl rfl ((c1.own 2 rfl encApiItem_len).addr (h201 (by rw [decide_eq_false h207, decide_eq_false h208] <;> rfl)).1 (h201 (by rw [decide_eq_false h207, decide_eq_false h208] <;> rfl)).2) (c1.ownZ 2 rfl).2.2 (h201 (by rw [decide_eq_false h207, decide_eq_false h208] <;> rfl))) ?_
       refine q_ 75 (fun _ _ => op_field0 rfl (by kernel_rfl)) ?_
       refine q_ 76 (fun _ c1 => oL (v := .int .i64 ((ix r12.1.Items s182).Kind)) ((c1.own 2 rfl encApiItem_len).cell0 (h201 (by rw [decide_eq_false h207, decide_eq_false h208] <;> rfl)).1 (h201 (by rw [decide_eq_false h207, decide_eq_false h208] <;> rfl)).2 rfl)) ?_
       refine qd 77 (fun _ _ => op_gtr rfl rfl) (fun h209 => ?_) (fun h209 => ?_)
       ·refine qa 25 ((102, .bool true) :: (101, undef) :: (100, undef) :: (99, undef) :: (98, .bool true) :: (97, .bool true) :: (96, undef) :: (95, undef) :: (94, .bool true) :: (93, .bool true) :: (92, undef) :: (91, undef) :: (90, undef) :: (89, undef) :: (88, undef) :: (87, undef) :: (86, .bool true) :: (85, .bool true) :: (84, undef) :: (83, undef) :: (82, undef) :: (81, undef) :: (80, undef) :: (79, .bool true) :: (78, .bool true) :: _) rfl ?_
        exact leaf_q (sub_out 44 _ rfl (by kernel_rfl) ⟨(congrArg Value.bool (by rw [decide_eq_false h207, decide_eq_false h208, decide_eq_true h209] <;> rfl)), trivial⟩)
       ·refine qa 3 ((80, .string _) :: (79, .bool false) :: (78, .bool false) :: _) rfl ?_
        refine q_ 81 (fun _ _ => op_lenS rfl (by kernel_rfl)) ?_
        refine qa 1 ((82, .string _) :: _) rfl ?_
        refine q_ 83 (fun _ _ => op_lenS rfl (by kernel_rfl)) ?_
        refine qd 84 (fun _ _ => op_leq rfl rfl) (fun h210 => ?_) (fun h210 => ?_)
        ·refine qa 18 ((102, .bool true) :: (101, undef) :: (100, undef) :: (99, undef) :: (98, .bool true) :: (97, .bool true) :: (96, undef) :: (95, undef) :: (94, .bool true) :: (93, .bool true) :: (92, undef) :: (91, undef) :: (90, undef) :: (89, undef) :: (88, undef) :: (87, undef) :: (86, .bool true) :: (85, .bool true) :: _) rfl ?_
         exact leaf_q (sub_out 44 _ rfl (by kernel_rfl) ⟨(congrArg Value.bool (by rw [decide_eq_false h207, decide_eq_false h208, decide_eq_false h209, decide_eq_true h210] <;> rfl)), trivial⟩)
        ·refine qa 4 ((88, .string _) :: (87, .string _) :: (86, .bool false) :: (85, .bool false) :: _) rfl ?_
         refine q_ 89 (fun _ _ => op_lenS rfl (by kernel_rfl)) ?_
         refine q_ 90 (fun _ _ => op_sliceSH rfl rfl (by kernel_rfl) (h202 (by rw [decide_eq_false h207, decide_eq_false h208, decide_eq_false h209, decide_eq_false h210] <;> rfl))) ?_
         refine qa 1 ((91, .string _) :: _) rfl ?_
         refine qd 92 (fun _ _ => op_neqS rfl rfl) (fun h211 => ?_) (fun h211 => ?_)
         ·refine qa 10 ((102, .bool true) :: (101, undef) :: (100, undef) :: (99, undef) :: (98, .bool true) :: (97, .bool true) :: (96, undef) :: (95, undef) :: (94, .bool true) :: (93, .bool true) :: _) rfl ?_
          exact leaf_q (sub_out 44 _ rfl (by kernel_rfl) ⟨(congrArg Value.bool (by rw [decide_eq_false h207, decide_eq_false h208, decide_eq_false h209, decide_eq_false h210, decide_eq_true h211] <;> rfl)), trivial⟩)
         ·refine qa 3 ((95, .string _) :: (94, .bool false) :: (93, .bool false) :: _) rfl ?_
          refine wq_callb 96 (by kernel_rfl) (fun w1 c1 => op_call (by kernel_rfl)) (fun w1 c1 => (m_recyclinglaw54_has_ok N w1 r186.1 (⟨#[10]⟩ : ByteArray)  r203 (h204 (by rw [decide_eq_false h207, decide_eq_false h208, decide_eq_false h209, decide_eq_false h210, decide_eq_false h211] <;> rfl))).mono (fun _ _ ⟨_, hx, hu⟩ => ⟨hx, c1.call hu⟩)) (fun h212 => ?_) (fun h212 => ?_)
          ·refine qa 6 ((102, .bool true) :: (101, undef) :: (100, undef) :: (99, undef) :: (98, .bool true) :: (97, .bool true) :: _) rfl ?_
           exact leaf_q (sub_out 44 _ rfl (by kernel_rfl) ⟨(congrArg Value.bool (by rw [decide_eq_false h207, decide_eq_false h208, decide_eq_false h209, decide_eq_false h210, decide_eq_false h211, h212] <;> rfl)), trivial⟩)
          ·refine qa 3 ((99, .string _) :: (98, .bool false) :: (97, .bool false) :: _) rfl ?_
           refine wq_call 100 (by kernel_rfl) (fun w1 c1 => op_call (by kernel_rfl)) (fun w1 c1 => (m_recyclinglaw54_has_ok N w1 r186.1 (⟨#[58, 32]⟩ : ByteArray)  r205 (h206 (by rw [decide_eq_false h207, decide_eq_false h208, decide_eq_false h209, decide_eq_false h210, decide_eq_false h211, h212] <;> rfl))).mono (fun _ _ ⟨_, hx, hu⟩ => ⟨hx, c1.call hu⟩)) ?_
           refine qa 2 ((102, .bool _) :: (101, .bool _) :: _) rfl ?_
           exact leaf_q (sub_out 44 _ rfl (by kernel_rfl) ⟨(congrArg Value.bool (by rw [decide_eq_false h207, decide_eq_false h208, decide_eq_false h209, decide_eq_false h210, decide_eq_false h211, h212] <;> rfl)), trivial⟩)
    refine xm_next ?_
    refine cm_condB (by kernel_rfl) rfl (fun h213 => ?_) (fun h213 => ?_)
    ·refine sr ?_
     refine la 1 ((4, .bool false) :: _) rfl ?_
     refine nn ?_
     refine cm_ret ?_
     refine xm_inR ?_
     refine xm_thenR ?_
     refine xm_lret ?_
     refine xm_inR ?_
     refine xm_lret ?_
     exact xm_retT rfl (by kernel_rfl) (show _ = Value.bool false from rfl) fun w1 c1 => ⟨(), rfl, hsub [] (by kernel_rfl) rfl w1 c1⟩
    ·refine cm_skip ?_
     refine xm_inN ?_
     refine xm_next ?_
     refine cm_region ?_
     refine la 1 ((36, .int .i64 _) :: _) rfl ?_
     refine lm_ck (fun h214 => ?_)
     refine v_ 37 (fun _ _ => op_add rfl rfl h214) ?_
     refine la 1 ((7, .int .i64 _) :: _) rfl ?_
     refine lm_nil ?_
     exact xm_lnext () sq (sh [0, 1, 2])
   ·refine cm_exit ?_
    refine xm_thenE ?_
    refine xm_lexit ?_
    refine xm_here ?_
    exact xm_lnext () sq (sh [0, 1, 2])
  intro s114 u115
  refine sr ?_
  refine v_ 104 (fun _ c1 => oR [.slice _ _ _, .slice _ _ _, .slice _ _ _, .slice _ _ _, .slice _ _ _, .int .i64 _] (c1.cells 0 rfl rfl)) ?_
  refine v_ 105 (fun _ c1 => oR [.int .i64 _, .int .i64 _, .int .i64 _, .int .i64 _, .slice _ _ _, .int .i64 _] (c1.cells 1 rfl rfl)) ?_
  refine v_ 106 (fun _ _ => oF 4 4 rfl) ?_
  refine v_ 107 (fun _ c1 => oL (c1.cell 1 (u := .slice _ _ _) rfl rfl)) ?_
  refine v_ 108 (fun _ c1 => op_lenN rfl (by kernel_rfl) (c1.ownZ 2 rfl).2.2) ?_
  refine lm_call 109 (V := (fun (r : ByteArray × Int) (_u : Unit) => .tuple #[.string r.1, .int .i64 r.2])) (HR := (fun (_r : ByteArray × Int) (_u : Unit) => [])) (by kernel_rfl) (fun w1 => op_call (by kernel_rfl)) (fun r1 hr1 w1 c1 => m_bill_Explain_ok N w1 p0 r12.1 (List.length r12.1.Items : Int) A_p01 n_p01 c_p01 A_p02 n_p02 c_p02 A_p03 n_p03 c_p03 A_p04 n_p04 c_p04 A_p05 n_p05 c_p05 u13.1 u13.2.1 u13.2.2 (hr_p01.old c1) hz_p01 (hr_p02.old c1) hz_p02 (hr_p03.old c1) hz_p03 (hr_p04.old c1) hz_p04 (hr_p05.old c1) hz_p05 (c1.own 2 rfl encApiItem_len) (c1.ownZ 2 rfl) (hs_tab ht c1) r1 hr1) ?_
  intro r215 u216
  refine la 5 ((12, .int .i64 _) :: (11, .string _) :: (111, .int .i64 _) :: (110, .string _) :: (103, .tuple _) :: _) rfl ?_
  refine nn ?_
  refine cm_seq ?_
  refine cm_callIf fun r217 h218 => ?_
  refine cm_cutE [(4, .bool ((decide (r215.2 ≠ 0)) && r217))] ?_ ?_
  ·refine qa 1 ((112, .int .i64 _) :: _) rfl ?_
   refine qd 113 (fun _ _ => op_neq rfl rfl) (fun h219 => ?_) (fun h219 => ?_)
   ·refine qa 1 ((114, .bool true) :: _) rfl ?_
    refine wq_call 115 (by kernel_rfl) (fun w1 c1 => op_call (by kernel_rfl)) (fun w1 c1 => (m_recyclinglaw54_awake_ok N w1  (hs_tab ht c1) r217 (h218 (by rw [decide_eq_true h219] <;> rfl))).mono (fun _ _ ⟨_, hx, hu⟩ => ⟨hx, c1.call hu⟩)) ?_
    refine qa 2 ((4, .bool _) :: (116, .bool _) :: _) rfl ?_
    exact leaf_q (sub_out 6 _ rfl (by kernel_rfl) ⟨(congrArg Value.bool (by rw [decide_eq_true h219] <;> rfl)), trivial⟩)
   ·refine qa 4 ((4, .bool false) :: (116, .bool false) :: (115, undef) :: (114, .bool false) :: _) rfl ?_
    exact leaf_q (sub_out 6 _ rfl (by kernel_rfl) ⟨(congrArg Value.bool (by rw [decide_eq_false h219] <;> rfl)), trivial⟩)
  refine xm_next ?_
  refine cm_ret ?_
  exact xm_retT rfl (by kernel_rfl) (show _ = Value.bool _ from rfl) fun w1 c1 => ⟨(), rfl, hsub [] (by kernel_rfl) rfl w1 c1⟩
end Go.Proofs.YtpbgfdmkebnjgaaGreatDoor
