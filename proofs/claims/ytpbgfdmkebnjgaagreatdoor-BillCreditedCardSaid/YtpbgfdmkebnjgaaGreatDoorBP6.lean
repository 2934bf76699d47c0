/- Models of functions, and that the code follows them. Written by deco.py. -/
import Derived.Test.YtpbgfdmkebnjgaaGreatDoorBP5
import Derived.Test.YtpbgfdmkebnjgaaGreatDoorDTab
namespace Go.Proofs.YtpbgfdmkebnjgaaGreatDoor
open Go.RowKit
set_option linter.unusedSectionVars false
variable [JF]

/-- bill.words -/
def m_bill_words (N : Nat) (p0 : (List IfV)) : Option (ByteArray) :=
 ck ((0 : Int) ≤ (List.length p0 : Int) ∧ Int.toNat (List.length p0 : Int) * 16 ≤ 140737488355328) (
  (andThen
   (loopM (fun (s132 : (List ByteArray) × Int) =>
    (if s132.2 < (List.length p0 : Int) then
     (andThen
      (ck ((0 : Int) ≤ s132.2 ∧ s132.2 < (List.length p0 : Int)) (
       ck (ifOkInt 3 (ix p0 s132.2) = true) (
        (if (ifIsInt 3 (ix p0 s132.2)) = true then
         Option.bind (m_strconv_Itoa N (ifInt 3 (ix p0 s132.2))) fun r149 => ck ((0 : Int) ≤ s132.2 ∧ s132.2 < (List.length s132.1 : Int)) (
          some (.next (List.set s132.1 (Int.toNat s132.2) r149)))
        else
         ck (ifOkStr 9 (ix p0 s132.2) = true) (
          (if (ifIsStr 9 (ix p0 s132.2)) = true then
           ck ((0 : Int) ≤ s132.2 ∧ s132.2 < (List.length s132.1 : Int)) (
            some (.next (List.set s132.1 (Int.toNat s132.2) (ifStr 9 (ix p0 s132.2)))))
          else
           some (.next s132.1)))))))
     fun (s144 : (List ByteArray)) =>
      ck (I64 (s132.2 + (1 : Int))) (
       some (.next (s144, (s132.2 + (1 : Int))))))
    else
     some (.done (.next s132.1)))) N ((List.replicate (Int.toNat (List.length p0 : Int)) (⟨#[]⟩ : ByteArray)), (0 : Int)))
  fun (s82 : (List ByteArray)) =>
   Option.bind (m_strings_Join N s82 (⟨#[32]⟩ : ByteArray)) fun r156 => some (r156)))
set_option maxHeartbeats 2000000 in
set_option maxRecDepth 20000 in
theorem m_bill_words_ok (N : Nat) (w0 : World) (p0 : (List IfV)) (A_p0 : Option Addr) (n_p0 c_p0 : Nat) (hr_p0 : RdE w0 1 encIf A_p0 p0) (hz_p0 : SW A_p0 n_p0 c_p0 (List.length p0)) (ht : Tab w0) (r : ByteArray) (hr : m_bill_words N p0 = some r) :
  Ret Tryz.prog 58 [.slice A_p0 n_p0 c_p0] w0 (fun (r : ByteArray) (_u : Unit) => .string r) (fun (_r : ByteArray) (_u : Unit) => []) r := by
 refine calls_v (n := 37) r hr Tryz.func58 ?_
 unfold m_bill_words
 refine sr ?_
 refine la 1 ((2, .string _) :: _) rfl ?_
 refine nn ?_
 refine sr ?_
 refine la 1 ((8, .slice _ _ _) :: _) rfl ?_
 refine v_ 9 (fun _ _ => op_lenN rfl (by kernel_rfl) hz_p0.2.2) ?_
 refine lm_ck (fun h5 => ?_)
 refine lm_make 10 (el := 9) (sz := 1) (bytes := 16) (enc := encS) (⟨#[]⟩ : ByteArray) (zv := .string (⟨#[]⟩ : ByteArray)) (by kernel_rfl) (by kernel_rfl) (by kernel_rfl) rfl encS_len rfl rfl h5.1 h5.2 (by kernel_rfl) ?_
 intro A6 n7 k8 h9
 refine la 1 ((3, .slice _ _ _) :: _) rfl ?_
 refine nn ?_
 refine cm_join (σ := (List ByteArray)) (ξ := Unit) (fun s82 u83 => [(3, .slice A6 n7 k8)]) (fun s82 u83 => [ownE 9 1 encS A6 n7 k8 s82]) ?_ ?_
 ·refine sr ?_
  refine la 1 ((11, .slice _ _ _) :: _) rfl ?_
  refine v_ 12 (fun _ _ => op_lenN rfl (by kernel_rfl) hz_p0.2.2) ?_
  refine la 1 ((13, .int .i64 _) :: _) rfl ?_
  refine nn ?_
  refine cm_block ?_
  refine cm_loop (σ := (List ByteArray) × Int) (ξ := Unit) (fun s132 u133 => [(3, .slice A6 n7 k8), (11, .slice A_p0 n_p0 c_p0), (12, .int .i64 (List.length p0 : Int)), (13, .int .i64 s132.2)]) (fun s132 u133 => [ownE 9 1 encS A6 n7 k8 s132.1]) () ?_ ?_ ?_
  ·exact sq
  ·exact sh [0]
  intro s132 u133
  refine sr ?_
  refine la 1 ((14, .bool _) :: _) rfl ?_
  refine nn ?_
  refine cm_seq ?_
  refine cm_cond (by kernel_rfl) rfl (fun h134 => ?_) (fun h134 => ?_)
  ·refine sk ?_
   refine cm_join (σ := (List ByteArray)) (ξ := Unit) (fun s144 u145 => [(3, .slice A6 n7 k8), (11, .slice A_p0 n_p0 c_p0), (12, .int .i64 (List.length p0 : Int)), (13, .int .i64 s132.2)]) (fun s144 u145 => [ownE 9 1 encS A6 n7 k8 s144]) ?_ ?_
   ·refine cm_block ?_
    refine sr ?_
    refine la 1 ((15, .int .i64 _) :: _) rfl ?_
    refine lm_ck (fun h146 => ?_)
    refine v_ 16 (fun _ c1 => oI 1 rfl rfl ((hr_p0.old c1).addr h146.1 h146.2) hz_p0.2.2 h146) ?_
    refine v_ 17 (fun _ c1 => oL (v := valIf (ix p0 s132.2)) ((hr_p0.old c1).cell0 h146.1 h146.2 rfl)) ?_
    refine la 2 ((5, _) :: (4, .int .i64 _) :: _) rfl ?_
    refine nn ?_
    refine sr ?_
    refine la 1 ((18, _) :: _) rfl ?_
    refine nn ?_
    refine cm_block ?_
    refine sr ?_
    refine lm_ck (fun h147 => ?_)
    refine v_ 19 (fun _ _ => op_assertInt (z := (ix p0 s132.2)) rfl Tryz.underlying3 (by kernel_rfl) h147) ?_
    refine la 2 ((21, .int .i64 _) :: (20, .bool _) :: _) rfl ?_
    refine nn ?_
    refine cm_condB (by kernel_rfl) rfl (fun h148 => ?_) (fun h148 => ?_)
    ·refine sr ?_
     refine la 1 ((6, .int .i64 _) :: _) rfl ?_
     refine nn ?_
     refine cm_region ?_
     refine la 3 ((24, .int .i64 _) :: (23, .int .i64 _) :: (22, .slice _ _ _) :: _) rfl ?_
     refine lm_call 25 (V := (fun (r : ByteArray) (_u : Unit) => .string r)) (HR := (fun (_r : ByteArray) (_u : Unit) => [])) (by kernel_rfl) (fun w1 => op_call (by kernel_rfl)) (fun r1 hr1 w1 c1 => m_strconv_Itoa_ok N w1 (ifInt 3 (ix p0 s132.2)) (hs_tab ht c1) r1 hr1) ?_
     intro r149 u150
     refine lm_ck (fun h151 => ?_)
     refine v_ 26 (fun _ c1 => oI 1 rfl rfl ((c1.own 0 rfl encS_len).addr h151.1 h151.2) (c1.ownZ 0 rfl).2.2 h151) ?_
     refine lm_storeIx 0 r149 0 [.string _] (by kernel_rfl) rfl rfl (by kernel_rfl) rfl rfl rfl encS_len encS_one h151.1 h151.2 (by kernel_rfl) rfl ?_
     refine lm_nil ?_
     refine xm_inN ?_
     refine xm_inN ?_
     exact xm_lnext () sq (sh [0])
    ·refine sr ?_
     refine lm_ck (fun h152 => ?_)
     refine v_ 27 (fun _ _ => op_assertStr (z := (ix p0 s132.2)) rfl Tryz.underlying9 (by kernel_rfl) h152) ?_
     refine la 2 ((29, .string _) :: (28, .bool _) :: _) rfl ?_
     refine nn ?_
     refine cm_condB (by kernel_rfl) rfl (fun h153 => ?_) (fun h153 => ?_)
     ·refine sr ?_
      refine la 1 ((7, .string _) :: _) rfl ?_
      refine nn ?_
      refine cm_region ?_
      refine la 3 ((32, .string _) :: (31, .int .i64 _) :: (30, .slice _ _ _) :: _) rfl ?_
      refine lm_ck (fun h154 => ?_)
      refine v_ 33 (fun _ c1 => oI 1 rfl rfl ((c1.own 0 rfl encS_len).addr h154.1 h154.2) (c1.ownZ 0 rfl).2.2 h154) ?_
      refine lm_storeIx 0 (ifStr 9 (ix p0 s132.2)) 0 [.string _] (by kernel_rfl) rfl rfl (by kernel_rfl) rfl rfl rfl encS_len encS_one h154.1 h154.2 (by kernel_rfl) rfl ?_
      refine lm_nil ?_
      refine xm_inN ?_
      refine xm_inN ?_
      exact xm_lnext () sq (sh [0])
     ·refine cm_skip ?_
      refine xm_inN ?_
      refine xm_inN ?_
      exact xm_lnext () sq (sh [0])
   intro s144 u145
   refine cm_region ?_
   refine lm_ck (fun h155 => ?_)
   refine v_ 34 (fun _ _ => op_add rfl rfl h155) ?_
   refine la 1 ((13, .int .i64 _) :: _) rfl ?_
   refine lm_nil ?_
   exact xm_lnext () sq (sh [0])
  ·refine cm_exit ?_
   refine xm_thenE ?_
   refine xm_lexit ?_
   refine xm_here ?_
   exact xm_lnext () sq (sh [0])
 intro s82 u83
 refine sr ?_
 refine la 1 ((35, .slice _ _ _) :: _) rfl ?_
 refine lm_call 36 (V := (fun (r : ByteArray) (_u : Unit) => .string r)) (HR := (fun (_r : ByteArray) (_u : Unit) => [])) (by kernel_rfl) (fun w1 => op_call (by kernel_rfl)) (fun r1 hr1 w1 c1 => m_strings_Join_ok N w1 s82 (⟨#[32]⟩ : ByteArray) A6 n7 k8 (c1.own 0 rfl encS_len) (c1.ownZ 0 rfl) (hs_tab ht c1) r1 hr1) ?_
 intro r156 u157
 refine la 1 ((2, .string _) :: _) rfl ?_
 refine nn ?_
 refine cm_ret ?_
 exact xm_retT rfl (by kernel_rfl) (show _ = Value.string _ from rfl) fun w1 c1 => ⟨(), rfl, hsub [] (by kernel_rfl) rfl w1 c1⟩
/-- bill.colon -/
def m_bill_colon (N : Nat) (p0 : Int) : Option (ByteArray) :=
 Option.bind (m_strconv_Itoa N p0) fun r5 => ck (ByteArray.size r5 + ByteArray.size (⟨#[58]⟩ : ByteArray) ≤ 9223372036854775807) (
  some ((r5 ++ (⟨#[58]⟩ : ByteArray))))
set_option maxRecDepth 20000 in
theorem m_bill_colon_ok (N : Nat) (w0 : World) (p0 : Int)  (ht : Tab w0) (r : ByteArray) (hr : m_bill_colon N p0 = some r) :
  Ret Tryz.prog 59 [.int .i64 p0] w0 (fun (r : ByteArray) (_u : Unit) => .string r) (fun (_r : ByteArray) (_u : Unit) => []) r := by
 refine calls_v (n := 6) r hr Tryz.func59 ?_
 unfold m_bill_colon
 refine sr ?_
 refine la 1 ((2, .string _) :: _) rfl ?_
 refine nn ?_
 refine sr ?_
 refine la 1 ((3, .int .i64 _) :: _) rfl ?_
 refine lm_call 4 (V := (fun (r : ByteArray) (_u : Unit) => .string r)) (HR := (fun (_r : ByteArray) (_u : Unit) => [])) (by kernel_rfl) (fun w1 => op_call (by kernel_rfl)) (fun r1 hr1 w1 c1 => m_strconv_Itoa_ok N w1 p0 (hs_tab ht c1) r1 hr1) ?_
 intro r5 u6
 refine lm_ck (fun h7 => ?_)
 refine v_ 5 (fun _ _ => op_addS rfl rfl h7) ?_
 refine la 1 ((2, .string _) :: _) rfl ?_
 refine nn ?_
 refine cm_ret ?_
 exact xm_retT rfl (by kernel_rfl) (show _ = Value.string _ from rfl) fun w1 c1 => ⟨(), rfl, hsub [] (by kernel_rfl) rfl w1 c1⟩
/-- bill.explainEmptying$1 -/
def m_bill_explainEmptying_1 (_N : Nat) (p0 : ApiEmptying) (q0 : ApiItem) : Option (Bool) :=
 some ((decide (p0.ID = q0.Ref)))
set_option maxRecDepth 20000 in
theorem m_bill_explainEmptying_1_ok (N : Nat) (w0 : World) (p0 : ApiEmptying) (q0 : ApiItem) (b_q0 : Nat) (hb_q0 : Blk w0 b_q0 66 [.int .i64 q0.Kind, .int .i64 q0.Ref, .int .i64 q0.Count, .int .i64 q0.Price, .int .i64 q0.Amount]) (r : Bool) (hr : m_bill_explainEmptying_1 N p0 q0 = some r) :
  Ret Tryz.prog 92 [.agg #[.int .i64 p0.ID, .int .i64 p0.Container, .int .i64 p0.Vehicle, .int .i64 p0.At, .int .i64 p0.Mass.Lo, .int .i64 p0.Mass.Hi, .bool p0.Void], .pointer (some ⟨b_q0, 0, none⟩)] w0 (fun (r : Bool) (_u : Unit) => .bool r) (fun (_r : Bool) (_u : Unit) => []) r := by
 refine calls_v (n := 9) r hr Tryz.func92 ?_
 unfold m_bill_explainEmptying_1
 refine sr ?_
 refine lm_box 2 [.int .i64 _, .int .i64 _, .int .i64 _, .int .i64 _, .int .i64 _, .int .i64 _, .bool _] (by kernel_rfl) rfl ?_
 intro b5
 refine la 1 ((3, .bool false) :: _) rfl ?_
 refine nn ?_
 refine sr ?_
 refine v_ 4 (fun _ _ => oF 0 0 rfl) ?_
 refine v_ 5 (fun _ c1 => oL (c1.cell 0 (u := .int .i64 _) rfl rfl)) ?_
 refine v_ 6 (fun _ _ => oF 1 1 rfl) ?_
 refine v_ 7 (fun _ c1 => oL (c1.ocell (hb_q0.at_ 1 (u := .int .i64 _) rfl))) ?_
 refine la 2 ((3, .bool _) :: (8, .bool _) :: _) rfl ?_
 refine nn ?_
 refine cm_ret ?_
 exact xm_retT rfl (by kernel_rfl) (show _ = Value.bool _ from rfl) fun w1 c1 => ⟨(), rfl, hsub [] (by kernel_rfl) rfl w1 c1⟩
/-- slices.IndexFunc -/
def m_slices_IndexFunc_bill_explainEmptying_1 (N : Nat) (p0 : (List ApiEmptying)) (p1c0 : ApiItem) : Option (Int) :=
 (andThen
  (loopM (fun (s47 : Int) =>
   (if s47 < (List.length p0 : Int) then
    ck ((0 : Int) ≤ s47 ∧ s47 < (List.length p0 : Int)) (
     Option.bind (m_bill_explainEmptying_1 N (ix p0 s47) p1c0) fun r51 => (if r51 = true then
      some (.done (.done (s47)))
     else
      ck (I64 (s47 + (1 : Int))) (
       some (.next (s47 + (1 : Int))))))
   else
    some (.done (.next ())))) N (0 : Int))
 fun (_s29 : Unit) =>
  some ((-1 : Int)))
set_option maxRecDepth 20000 in
theorem m_slices_IndexFunc_bill_explainEmptying_1_ok (N : Nat) (w0 : World) (p0 : (List ApiEmptying)) (p1c0 : ApiItem) (A_p0 : Option Addr) (n_p0 c_p0 : Nat) (b_p1c0 : Nat) (hr_p0 : RdE w0 7 encApiEmptying A_p0 p0) (hz_p0 : SW A_p0 n_p0 c_p0 (List.length p0)) (hb_p1c0 : Blk w0 b_p1c0 66 [.int .i64 p1c0.Kind, .int .i64 p1c0.Ref, .int .i64 p1c0.Count, .int .i64 p1c0.Price, .int .i64 p1c0.Amount]) (r : Int) (hr : m_slices_IndexFunc_bill_explainEmptying_1 N p0 p1c0 = some r) :
  Ret Tryz.prog 91 [.slice A_p0 n_p0 c_p0, .func (.func 92) #[] #[.pointer (some ⟨b_p1c0, 0, none⟩)]] w0 (fun (r : Int) (_u : Unit) => .int .i64 r) (fun (_r : Int) (_u : Unit) => []) r := by
 refine calls_v (n := 19) r hr Tryz.func91 ?_
 unfold m_slices_IndexFunc_bill_explainEmptying_1
 refine sr ?_
 refine la 1 ((4, .int .i64 _) :: _) rfl ?_
 refine nn ?_
 refine cm_join (σ := Unit) (ξ := Unit) (fun s29 u30 => []) (fun s29 u30 => []) ?_ ?_
 ·refine sr ?_
  refine la 1 ((6, .slice _ _ _) :: _) rfl ?_
  refine v_ 7 (fun _ _ => op_lenN rfl (by kernel_rfl) hz_p0.2.2) ?_
  refine la 1 ((8, .int .i64 _) :: _) rfl ?_
  refine nn ?_
  refine cm_block ?_
  refine cm_loop (σ := Int) (ξ := Unit) (fun s47 u48 => [(0, .slice A_p0 n_p0 c_p0), (1, .func (.func 92) #[] #[.pointer (some ⟨b_p1c0, 0, none⟩)]), (7, .int .i64 (List.length p0 : Int)), (8, .int .i64 s47)]) (fun s47 u48 => []) () ?_ ?_ ?_
  ·exact sq
  ·exact sh []
  intro s47 u48
  refine sr ?_
  refine la 1 ((9, .bool _) :: _) rfl ?_
  refine nn ?_
  refine cm_seq ?_
  refine cm_cond (by kernel_rfl) rfl (fun h49 => ?_) (fun h49 => ?_)
  ·refine sk ?_
   refine cm_seq ?_
   refine cm_block ?_
   refine sr ?_
   refine la 2 ((5, .int .i64 _) :: (10, .int .i64 _) :: _) rfl ?_
   refine nn ?_
   refine sr ?_
   refine la 3 ((13, .int .i64 _) :: (12, .slice _ _ _) :: (11, .func _ _ _) :: _) rfl ?_
   refine lm_ck (fun h50 => ?_)
   refine v_ 14 (fun _ c1 => oI 7 rfl rfl ((hr_p0.old c1).addr h50.1 h50.2) hz_p0.2.2 h50) ?_
   refine v_ 15 (fun _ c1 => oR [.int .i64 ((ix p0 s47).ID), .int .i64 ((ix p0 s47).Container), .int .i64 ((ix p0 s47).Vehicle), .int .i64 ((ix p0 s47).At), .int .i64 ((ix p0 s47).Mass.Lo), .int .i64 ((ix p0 s47).Mass.Hi), .bool ((ix p0 s47).Void)] ((hr_p0.old c1).row h50.1 h50.2)) ?_
   refine lm_call 16 (V := (fun (r : Bool) (_u : Unit) => .bool r)) (HR := (fun (_r : Bool) (_u : Unit) => [])) (by kernel_rfl) (fun w1 => op_callv rfl (by kernel_rfl)) (fun r1 hr1 w1 c1 => m_bill_explainEmptying_1_ok N w1 (ix p0 s47) p1c0 b_p1c0 (c1.oblk hb_p1c0) r1 hr1) ?_
   intro r51 u52
   refine nn ?_
   refine cm_condB (by kernel_rfl) rfl (fun h53 => ?_) (fun h53 => ?_)
   ·refine sr ?_
    refine la 2 ((4, .int .i64 _) :: (17, .int .i64 _) :: _) rfl ?_
    refine nn ?_
    refine cm_ret ?_
    refine xm_inR ?_
    refine xm_thenR ?_
    refine xm_lret ?_
    refine xm_inR ?_
    refine xm_lret ?_
    exact xm_retT rfl (by kernel_rfl) (show _ = Value.int .i64 _ from rfl) fun w1 c1 => ⟨(), rfl, hsub [] (by kernel_rfl) rfl w1 c1⟩
   ·refine cm_skip ?_
    refine xm_inN ?_
    refine xm_next ?_
    refine cm_region ?_
    refine lm_ck (fun h54 => ?_)
    refine v_ 18 (fun _ _ => op_add rfl rfl h54) ?_
    refine la 1 ((8, .int .i64 _) :: _) rfl ?_
    refine lm_nil ?_
    exact xm_lnext () sq (sh [])
  ·refine cm_exit ?_
   refine xm_thenE ?_
   refine xm_lexit ?_
   refine xm_here ?_
   exact xm_lnext () sub_nil (sh [])
 intro s29 u30
 refine sr ?_
 refine la 1 ((4, .int .i64 _) :: _) rfl ?_
 refine nn ?_
 refine cm_ret ?_
 exact xm_retT rfl (by kernel_rfl) (show _ = Value.int .i64 _ from rfl) fun w1 c1 => ⟨(), rfl, hsub [] (by kernel_rfl) rfl w1 c1⟩
/-- bill.explainEmptying -/
def m_bill_explainEmptying (N : Nat) (p0 : ApiAccount) (p1 : ApiItem) : Option (ByteArray × Int) :=
 Option.bind (m_slices_IndexFunc_bill_explainEmptying_1 N p0.Emptyings p1) fun r7 => (if r7 < 0 then
  some (((⟨#[]⟩ : ByteArray), (7 : Int)))
 else
  ck ((0 : Int) ≤ r7 ∧ r7 < (List.length p0.Emptyings : Int)) (
   (if p1.Kind = 3 then
    Option.bind (m_bill_colon N p1.Price) fun r13 => Option.bind (m_bill_words N ([(IfV.str 9 (⟨#[119, 101, 105, 103, 104, 116, 32, 111, 102, 32, 101, 109, 112, 116, 121, 105, 110, 103]⟩ : ByteArray)), (IfV.int 3 p1.Ref), (IfV.str 9 (⟨#[102, 114, 111, 109]⟩ : ByteArray)), (IfV.int 3 ((ix p0.Emptyings r7).Mass.Lo)), (IfV.str 9 (⟨#[116, 111]⟩ : ByteArray)), (IfV.int 3 ((ix p0.Emptyings r7).Mass.Hi)), (IfV.str 9 (⟨#[103, 114, 97, 109, 115, 58]⟩ : ByteArray)), (IfV.int 3 p1.Count), (IfV.str 9 (⟨#[107, 103, 32, 97, 116]⟩ : ByteArray)), (IfV.str 9 r13), (IfV.int 3 p1.Amount)])) fun r21 => some ((r21, (0 : Int)))
   else
    ck ((0 : Int) ≤ (ix p0.Emptyings r7).Container ∧ (ix p0.Emptyings r7).Container < (List.length p0.Containers : Int)) (
     ck (I64 ((ix p0.Emptyings r7).At)) (
      ck (I64 ((ix p0.Emptyings r7).At)) (
       Option.bind (m_bill_colon N ((ix p0.Emptyings r7).Vehicle)) fun r54 => Option.bind (m_bill_words N ([(IfV.str 9 (⟨#[101, 109, 112, 116, 121, 105, 110, 103]⟩ : ByteArray)), (IfV.int 3 p1.Ref), (IfV.str 9 (⟨#[111, 102, 32, 99, 111, 110, 116, 97, 105, 110, 101, 114]⟩ : ByteArray)), (IfV.str 9 ((ix p0.Containers ((ix p0.Emptyings r7).Container)).ID)), (IfV.str 9 (⟨#[111, 110, 32, 100, 97, 121]⟩ : ByteArray)), (IfV.int 3 (Int.tdiv ((ix p0.Emptyings r7).At) 86400)), (IfV.str 9 (⟨#[97, 116, 32, 115, 101, 99, 111, 110, 100]⟩ : ByteArray)), (IfV.int 3 (Int.tmod ((ix p0.Emptyings r7).At) 86400)), (IfV.str 9 (⟨#[98, 121, 32, 118, 101, 104, 105, 99, 108, 101]⟩ : ByteArray)), (IfV.str 9 r54), (IfV.int 3 p1.Amount)])) fun r62 => some ((r62, (0 : Int)))))))))
set_option maxHeartbeats 2000000 in
set_option maxRecDepth 20000 in
theorem m_bill_explainEmptying_ok (N : Nat) (w0 : World) (p0 : ApiAccount) (p1 : ApiItem) (A_p01 : Option Addr) (n_p01 c_p01 : Nat) (A_p02 : Option Addr) (n_p02 c_p02 : Nat) (A_p03 : Option Addr) (n_p03 c_p03 : Nat) (A_p04 : Option Addr) (n_p04 c_p04 : Nat) (A_p05 : Option Addr) (n_p05 c_p05 : Nat) (_hr_p01 : RdE w0 2 encApiHousehold A_p01 p0.Households) (_hz_p01 : SW A_p01 n_p01 c_p01 (List.length p0.Households)) (hr_p02 : RdE w0 5 encApiContainer A_p02 p0.Containers) (hz_p02 : SW A_p02 n_p02 c_p02 (List.length p0.Containers)) (_hr_p03 : RdE w0 4 encApiAssign A_p03 p0.Assigns) (_hz_p03 : SW A_p03 n_p03 c_p03 (List.length p0.Assigns)) (hr_p04 : RdE w0 7 encApiEmptying A_p04 p0.Emptyings) (hz_p04 : SW A_p04 n_p04 c_p04 (List.length p0.Emptyings)) (_hr_p05 : RdE w0 5 encApiTariff A_p05 p0.Tariffs) (_hz_p05 : SW A_p05 n_p05 c_p05 (List.length p0.Tariffs)) (ht : Tab w0) (r : ByteArray × Int) (hr : m_bill_explainEmptying N p0 p1 = some r) :
  Ret Tryz.prog 60 [.agg #[.slice A_p01 n_p01 c_p01, .slice A_p02 n_p02 c_p02, .slice A_p03 n_p03 c_p03, .slice A_p04 n_p04 c_p04, .slice A_p05 n_p05 c_p05, .int .i64 p0.Gap], .agg #[.int .i64 p1.Kind, .int .i64 p1.Ref, .int .i64 p1.Count, .int .i64 p1.Price, .int .i64 p1.Amount]] w0 (fun (r : ByteArray × Int) (_u : Unit) => .tuple #[.string r.1, .int .i64 r.2]) (fun (_r : ByteArray × Int) (_u : Unit) => []) r := by
 refine calls_v (n := 83) r hr Tryz.func60 ?_
 unfold m_bill_explainEmptying
 refine sr ?_
 refine lm_box 2 [.slice _ _ _, .slice _ _ _, .slice _ _ _, .slice _ _ _, .slice _ _ _, .int .i64 _] (by kernel_rfl) rfl ?_
 intro b5
 refine lm_box 3 [.int .i64 _, .int .i64 _, .int .i64 _, .int .i64 _, .int .i64 _] (by kernel_rfl) rfl ?_
 intro b6
 refine la 2 ((5, .int .i64 _) :: (4, .string _) :: _) rfl ?_
 refine nn ?_
 refine sr ?_
 refine v_ 8 (fun _ _ => oF 3 3 rfl) ?_
 refine v_ 9 (fun _ c1 => oL (c1.cell 1 (u := .slice _ _ _) rfl rfl)) ?_
 refine v_ 10 (fun _ _ => op_makeFuncC [.pointer (some ⟨_, _, _⟩)] rfl) ?_
 refine lm_call 11 (V := (fun (r : Int) (_u : Unit) => .int .i64 r)) (HR := (fun (_r : Int) (_u : Unit) => [])) (by kernel_rfl) (fun w1 => op_call (by kernel_rfl)) (fun r1 hr1 w1 c1 => m_slices_IndexFunc_bill_explainEmptying_1_ok N w1 p0.Emptyings p1 A_p04 n_p04 c_p04 b6 (hr_p04.old c1) hz_p04 (c1.blk 0 rfl) r1 hr1) ?_
 intro r7 u8
 refine la 1 ((6, .int .i64 _) :: _) rfl ?_
 refine nn ?_
 refine cm_seq ?_
 refine sr ?_
 refine la 2 ((13, .bool _) :: (12, .int .i64 _) :: _) rfl ?_
 refine nn ?_
 refine cm_cond (by kernel_rfl) rfl (fun h9 => ?_) (fun h9 => ?_)
 ·refine sr ?_
  refine la 2 ((5, .int .i64 _) :: (4, .string _) :: _) rfl ?_
  refine nn ?_
  refine cm_ret ?_
  refine xm_thenR ?_
  exact xm_retTT rfl (by kernel_rfl) (show _ = Value.string _ from rfl) (by kernel_rfl) (show _ = Value.int .i64 _ from rfl) fun w1 c1 => ⟨(), rfl, hsub [] (by kernel_rfl) rfl w1 c1⟩
 ·refine sk ?_
  refine sr ?_
  refine v_ 14 (fun _ _ => oF 3 3 rfl) ?_
  refine v_ 15 (fun _ c1 => oL (c1.cell 1 (u := .slice _ _ _) rfl rfl)) ?_
  refine la 1 ((16, .int .i64 _) :: _) rfl ?_
  refine lm_ck (fun h10 => ?_)
  refine v_ 17 (fun _ c1 => oI 7 rfl rfl ((hr_p04.old c1).addr h10.1 h10.2) hz_p04.2.2 h10) ?_
  refine v_ 18 (fun _ c1 => oR [.int .i64 ((ix p0.Emptyings r7).ID), .int .i64 ((ix p0.Emptyings r7).Container), .int .i64 ((ix p0.Emptyings r7).Vehicle), .int .i64 ((ix p0.Emptyings r7).At), .int .i64 ((ix p0.Emptyings r7).Mass.Lo), .int .i64 ((ix p0.Emptyings r7).Mass.Hi), .bool ((ix p0.Emptyings r7).Void)] ((hr_p04.old c1).row h10.1 h10.2)) ?_
  refine lm_alloc 7 [.int .i64 0, .int .i64 0, .int .i64 0, .int .i64 0, .int .i64 0, .int .i64 0, .bool false] (v := .agg #[.int .i64 0, .int .i64 0, .int .i64 0, .int .i64 0, .int .i64 0, .int .i64 0, .bool false]) (by kernel_rfl) (by kernel_rfl) rfl ?_
  intro b11
  refine lm_storeA 0 [.int .i64 _, .int .i64 _, .int .i64 _, .int .i64 _, .int .i64 _, .int .i64 _, .bool _] [_, _, _, _, _, _, _] (H' := [blkE _ _ [_, _, _, _, _, _, _], _, _]) (by kernel_rfl) rfl rfl (by kernel_rfl) rfl rfl (by kernel_rfl) rfl rfl ?_
  refine nn ?_
  refine cm_seq ?_
  refine sr ?_
  refine v_ 19 (fun _ _ => oF 0 0 rfl) ?_
  refine v_ 20 (fun _ c1 => oL (c1.cell 1 (u := .int .i64 _) rfl rfl)) ?_
  refine la 1 ((21, .bool _) :: _) rfl ?_
  refine nn ?_
  refine cm_cond (by kernel_rfl) rfl (fun h12 => ?_) (fun h12 => ?_)
  ·refine cm_seq ?_
   refine cm_bind fun r13 h14 => ?_
   refine cm_bind fun r21 h22 => ?_
   refine cm_held (ξ := Unit) (fun u35 => [(4, .string r21), (5, .int .i64 0)]) (fun u35 => []) [blkE b11 59 [.int .i64 ((ix p0.Emptyings r7).ID), .int .i64 ((ix p0.Emptyings r7).Container), .int .i64 ((ix p0.Emptyings r7).Vehicle), .int .i64 ((ix p0.Emptyings r7).At), .int .i64 ((ix p0.Emptyings r7).Mass.Lo), .int .i64 ((ix p0.Emptyings r7).Mass.Hi), .bool ((ix p0.Emptyings r7).Void)], blkE b6 66 [.int .i64 p1.Kind, .int .i64 p1.Ref, .int .i64 p1.Count, .int .i64 p1.Price, .int .i64 p1.Amount], blkE b5 28 [.slice A_p01 n_p01 c_p01, .slice A_p02 n_p02 c_p02, .slice A_p03 n_p03 c_p03, .slice A_p04 n_p04 c_p04, .slice A_p05 n_p05 c_p05, .int .i64 p0.Gap]] 30 (by kernel_rfl) (by rfl) (hsub [0, 1, 2] (by kernel_rfl) (by rfl)) ?_ ?_
   ·intro w37 c38
    refine wh_take 0 22 rfl (by kernel_rfl) (by kernel_rfl) (fun w2 c2 => (op_makeIf rfl (by kernel_rfl))) (hsub [0, 1, 2] (by kernel_rfl) rfl _ c38) ?_
    refine wh_take 1 23 rfl (by kernel_rfl) (by kernel_rfl) (fun w2 c2 => (op_fieldL (m := 1) (k := 1) rfl (by kernel_rfl) rfl)) (hsub [0, 1, 2] (by kernel_rfl) rfl _ c38) ?_
    refine wh_take 2 24 rfl (by kernel_rfl) (by kernel_rfl) (fun w2 c2 => (op_load rfl (by kernel_rfl) (c2.cell 1 (u := .int .i64 _) rfl rfl))) (hsub [0, 1, 2] (by kernel_rfl) rfl _ c38) ?_
    refine wh_take 3 25 rfl (by kernel_rfl) (by kernel_rfl) (fun w2 c2 => (op_makeIf rfl (by kernel_rfl))) (hsub [0, 1, 2] (by kernel_rfl) rfl _ c38) ?_
    refine wh_take 4 26 rfl (by kernel_rfl) (by kernel_rfl) (fun w2 c2 => (op_makeIf rfl (by kernel_rfl))) (hsub [0, 1, 2] (by kernel_rfl) rfl _ c38) ?_
    refine wh_take 5 27 rfl (by kernel_rfl) (by kernel_rfl) (fun w2 c2 => (op_fieldL (m := 4) (k := 4) rfl (by kernel_rfl) rfl)) (hsub [0, 1, 2] (by kernel_rfl) rfl _ c38) ?_
    refine wh_take 6 28 rfl (by kernel_rfl) (by kernel_rfl) (fun w2 c2 => (op_fieldL (m := 0) (k := 4) rfl (by kernel_rfl) rfl)) (hsub [0, 1, 2] (by kernel_rfl) rfl _ c38) ?_
    refine wh_take 7 29 rfl (by kernel_rfl) (by kernel_rfl) (fun w2 c2 => (op_load rfl (by kernel_rfl) (c2.cell 0 (u := .int .i64 _) rfl rfl))) (hsub [0, 1, 2] (by kernel_rfl) rfl _ c38) ?_
    refine wh_take 8 30 rfl (by kernel_rfl) (by kernel_rfl) (fun w2 c2 => (op_makeIf rfl (by kernel_rfl))) (hsub [0, 1, 2] (by kernel_rfl) rfl _ c38) ?_
    refine wh_take 9 31 rfl (by kernel_rfl) (by kernel_rfl) (fun w2 c2 => (op_makeIf rfl (by kernel_rfl))) (hsub [0, 1, 2] (by kernel_rfl) rfl _ c38) ?_
    refine wh_take 10 32 rfl (by kernel_rfl) (by kernel_rfl) (fun w2 c2 => (op_fieldL (m := 4) (k := 4) rfl (by kernel_rfl) rfl)) (hsub [0, 1, 2] (by kernel_rfl) rfl _ c38) ?_
    refine wh_take 11 33 rfl (by kernel_rfl) (by kernel_rfl) (fun w2 c2 => (op_fieldL (m := 1) (k := 5) rfl (by kernel_rfl) rfl)) (hsub [0, 1, 2] (by kernel_rfl) rfl _ c38) ?_
    refine wh_take 12 34 rfl (by kernel_rfl) (by kernel_rfl) (fun w2 c2 => (op_load rfl (by kernel_rfl) (c2.cell 0 (u := .int .i64 _) rfl rfl))) (hsub [0, 1, 2] (by kernel_rfl) rfl _ c38) ?_
    refine wh_take 13 35 rfl (by kernel_rfl) (by kernel_rfl) (fun w2 c2 => (op_makeIf rfl (by kernel_rfl))) (hsub [0, 1, 2] (by kernel_rfl) rfl _ c38) ?_
    refine wh_take 14 36 rfl (by kernel_rfl) (by kernel_rfl) (fun w2 c2 => (op_makeIf rfl (by kernel_rfl))) (hsub [0, 1, 2] (by kernel_rfl) rfl _ c38) ?_
    refine wh_take 15 37 rfl (by kernel_rfl) (by kernel_rfl) (fun w2 c2 => (op_fieldL (m := 2) (k := 2) rfl (by kernel_rfl) rfl)) (hsub [0, 1, 2] (by kernel_rfl) rfl _ c38) ?_
    refine wh_take 16 38 rfl (by kernel_rfl) (by kernel_rfl) (fun w2 c2 => (op_load rfl (by kernel_rfl) (c2.cell 1 (u := .int .i64 _) rfl rfl))) (hsub [0, 1, 2] (by kernel_rfl) rfl _ c38) ?_
    refine wh_take 17 39 rfl (by kernel_rfl) (by kernel_rfl) (fun w2 c2 => (op_makeIf rfl (by kernel_rfl))) (hsub [0, 1, 2] (by kernel_rfl) rfl _ c38) ?_
    refine wh_take 18 40 rfl (by kernel_rfl) (by kernel_rfl) (fun w2 c2 => (op_makeIf rfl (by kernel_rfl))) (hsub [0, 1, 2] (by kernel_rfl) rfl _ c38) ?_
    refine wh_take 19 41 rfl (by kernel_rfl) (by kernel_rfl) (fun w2 c2 => (op_fieldL (m := 3) (k := 3) rfl (by kernel_rfl) rfl)) (hsub [0, 1, 2] (by kernel_rfl) rfl _ c38) ?_
    refine wh_take 20 42 rfl (by kernel_rfl) (by kernel_rfl) (fun w2 c2 => (op_load rfl (by kernel_rfl) (c2.cell 1 (u := .int .i64 _) rfl rfl))) (hsub [0, 1, 2] (by kernel_rfl) rfl _ c38) ?_
    refine wh_take 23 45 rfl (by kernel_rfl) (by kernel_rfl) (fun w2 c2 => (op_fieldL (m := 4) (k := 4) rfl (by kernel_rfl) rfl)) (hsub [0, 1, 2] (by kernel_rfl) rfl _ c38) ?_
    refine wh_take 24 46 rfl (by kernel_rfl) (by kernel_rfl) (fun w2 c2 => (op_load rfl (by kernel_rfl) (c2.cell 1 (u := .int .i64 _) rfl rfl))) (hsub [0, 1, 2] (by kernel_rfl) rfl _ c38) ?_
    refine wh_take 25 47 rfl (by kernel_rfl) (by kernel_rfl) (fun w2 c2 => (op_makeIf rfl (by kernel_rfl))) (hsub [0, 1, 2] (by kernel_rfl) rfl _ c38) ?_
    refine wh_ready [21] (by kernel_rfl) rfl ⟨?_, trivial⟩
    refine ws_call 43 rfl (by kernel_rfl) (op_call (by kernel_rfl)) (m_bill_colon_ok N _ p1.Price (hs_tab ht c38) r13 h14) ?_
    rintro x w40 ⟨u39, rfl, c41⟩
    replace c41 := c38.call c41
    refine ⟨_, rfl, (hsub [0, 1, 2] (by kernel_rfl) rfl _ c41), ?_⟩
    refine wh_take 22 44 rfl (by kernel_rfl) (by kernel_rfl) (fun w2 c2 => (op_makeIf rfl (by kernel_rfl))) (hsub [0, 1, 2] (by kernel_rfl) rfl _ c41) ?_
    refine wh_ready [26] (by kernel_rfl) rfl ⟨?_, trivial⟩
    refine ws_sliceN 48 (el := 20) (sz := 1) (bytes := 16) (enc := encIf) [(IfV.str 9 (⟨#[119, 101, 105, 103, 104, 116, 32, 111, 102, 32, 101, 109, 112, 116, 121, 105, 110, 103]⟩ : ByteArray)), (IfV.int 3 p1.Ref), (IfV.str 9 (⟨#[102, 114, 111, 109]⟩ : ByteArray)), (IfV.int 3 ((ix p0.Emptyings r7).Mass.Lo)), (IfV.str 9 (⟨#[116, 111]⟩ : ByteArray)), (IfV.int 3 ((ix p0.Emptyings r7).Mass.Hi)), (IfV.str 9 (⟨#[103, 114, 97, 109, 115, 58]⟩ : ByteArray)), (IfV.int 3 p1.Count), (IfV.str 9 (⟨#[107, 103, 32, 97, 116]⟩ : ByteArray)), (IfV.str 9 r13), (IfV.int 3 p1.Amount)] rfl (by kernel_rfl) (by kernel_rfl) encIf_len rfl ⟨rfl, rfl, ⟨rfl, rfl, ⟨rfl, rfl, ⟨rfl, rfl, ⟨rfl, rfl, ⟨rfl, rfl, ⟨rfl, rfl, ⟨rfl, rfl, ⟨rfl, rfl, ⟨rfl, rfl, ⟨rfl, rfl, trivial⟩⟩⟩⟩⟩⟩⟩⟩⟩⟩⟩ (by kernel_rfl) (by kernel_rfl) c41 ?_
    intro A42 n43 k44 w45 c46
    refine ⟨(hsub [1, 2, 3] (by kernel_rfl) rfl _ c46), ?_⟩
    refine wh_strong (Hs w0 [ownE 20 1 encIf A42 n43 k44 ([(IfV.str 9 (⟨#[119, 101, 105, 103, 104, 116, 32, 111, 102, 32, 101, 109, 112, 116, 121, 105, 110, 103]⟩ : ByteArray)), (IfV.int 3 p1.Ref), (IfV.str 9 (⟨#[102, 114, 111, 109]⟩ : ByteArray)), (IfV.int 3 ((ix p0.Emptyings r7).Mass.Lo)), (IfV.str 9 (⟨#[116, 111]⟩ : ByteArray)), (IfV.int 3 ((ix p0.Emptyings r7).Mass.Hi)), (IfV.str 9 (⟨#[103, 114, 97, 109, 115, 58]⟩ : ByteArray)), (IfV.int 3 p1.Count), (IfV.str 9 (⟨#[107, 103, 32, 97, 116]⟩ : ByteArray)), (IfV.str 9 r13), (IfV.int 3 p1.Amount)]), blkE b11 59 [.int .i64 ((ix p0.Emptyings r7).ID), .int .i64 ((ix p0.Emptyings r7).Container), .int .i64 ((ix p0.Emptyings r7).Vehicle), .int .i64 ((ix p0.Emptyings r7).At), .int .i64 ((ix p0.Emptyings r7).Mass.Lo), .int .i64 ((ix p0.Emptyings r7).Mass.Hi), .bool ((ix p0.Emptyings r7).Void)], blkE b6 66 [.int .i64 p1.Kind, .int .i64 p1.Ref, .int .i64 p1.Count, .int .i64 p1.Price, .int .i64 p1.Amount], blkE b5 28 [.slice A_p01 n_p01 c_p01, .slice A_p02 n_p02 c_p02, .slice A_p03 n_p03 c_p03, .slice A_p04 n_p04 c_p04, .slice A_p05 n_p05 c_p05, .int .i64 p0.Gap]]) (fun w2 c2 => hsub [1, 2, 3] (by kernel_rfl) rfl w2 c2) ?_
    refine wh_ready [27] (by kernel_rfl) rfl ⟨?_, trivial⟩
    refine ws_call 49 rfl (by kernel_rfl) (op_call (by kernel_rfl)) (m_bill_words_ok N _ ([(IfV.str 9 (⟨#[119, 101, 105, 103, 104, 116, 32, 111, 102, 32, 101, 109, 112, 116, 121, 105, 110, 103]⟩ : ByteArray)), (IfV.int 3 p1.Ref), (IfV.str 9 (⟨#[102, 114, 111, 109]⟩ : ByteArray)), (IfV.int 3 ((ix p0.Emptyings r7).Mass.Lo)), (IfV.str 9 (⟨#[116, 111]⟩ : ByteArray)), (IfV.int 3 ((ix p0.Emptyings r7).Mass.Hi)), (IfV.str 9 (⟨#[103, 114, 97, 109, 115, 58]⟩ : ByteArray)), (IfV.int 3 p1.Count), (IfV.str 9 (⟨#[107, 103, 32, 97, 116]⟩ : ByteArray)), (IfV.str 9 r13), (IfV.int 3 p1.Amount)]) A42 n43 k44 (c46.own 0 rfl encIf_len) (c46.ownZ 0 rfl) (hs_tab ht c46) r21 h22) ?_
    rintro x w49 ⟨u48, rfl, c50⟩
    replace c50 := c46.call c50
    refine ⟨_, rfl, (hsub [0, 1, 2, 3] (by kernel_rfl) rfl _ c50), ?_⟩
    refine wh_take 28 4 rfl (by kernel_rfl) (by kernel_rfl) (fun w2 c2 => (op_assign (v := .string _) rfl)) (hsub [0, 1, 2, 3] (by kernel_rfl) rfl _ c50) ?_
    refine wh_take 29 5 rfl (by kernel_rfl) (by kernel_rfl) (fun w2 c2 => (op_assign (v := .int .i64 _) rfl)) (hsub [0, 1, 2, 3] (by kernel_rfl) rfl _ c50) ?_
    exact wh_done () (by kernel_rfl) sq (hsub [] (by kernel_rfl) rfl _ c50)
   intro u35
   refine xm_next ?_
   refine cm_ret ?_
   refine xm_thenR ?_
   exact xm_retTT rfl (by kernel_rfl) (show _ = Value.string _ from rfl) (by kernel_rfl) (show _ = Value.int .i64 _ from rfl) fun w1 c1 => ⟨(), rfl, hsub [] (by kernel_rfl) rfl w1 c1⟩
  ·refine sk ?_
   refine cm_seq ?_
   refine cm_ck (fun h51 => ?_)
   refine cm_ck (fun h52 => ?_)
   refine cm_ck (fun h53 => ?_)
   refine cm_bind fun r54 h55 => ?_
   refine cm_bind fun r62 h63 => ?_
   refine cm_held (ξ := Unit) (fun u76 => [(4, .string r62), (5, .int .i64 0)]) (fun u76 => []) [blkE b11 59 [.int .i64 ((ix p0.Emptyings r7).ID), .int .i64 ((ix p0.Emptyings r7).Container), .int .i64 ((ix p0.Emptyings r7).Vehicle), .int .i64 ((ix p0.Emptyings r7).At), .int .i64 ((ix p0.Emptyings r7).Mass.Lo), .int .i64 ((ix p0.Emptyings r7).Mass.Hi), .bool ((ix p0.Emptyings r7).Void)], blkE b6 66 [.int .i64 p1.Kind, .int .i64 p1.Ref, .int .i64 p1.Count, .int .i64 p1.Price, .int .i64 p1.Amount], blkE b5 28 [.slice A_p01 n_p01 c_p01, .slice A_p02 n_p02 c_p02, .slice A_p03 n_p03 c_p03, .slice A_p04 n_p04 c_p04, .slice A_p05 n_p05 c_p05, .int .i64 p0.Gap]] 35 (by kernel_rfl) (by rfl) (hsub [0, 1, 2] (by kernel_rfl) (by rfl)) ?_ ?_
   ·intro w78 c79
    refine wh_take 0 50 rfl (by kernel_rfl) (by kernel_rfl) (fun w2 c2 => (op_makeIf rfl (by kernel_rfl))) (hsub [0, 1, 2] (by kernel_rfl) rfl _ c79) ?_
    refine wh_take 1 51 rfl (by kernel_rfl) (by kernel_rfl) (fun w2 c2 => (op_fieldL (m := 1) (k := 1) rfl (by kernel_rfl) rfl)) (hsub [0, 1, 2] (by kernel_rfl) rfl _ c79) ?_
    refine wh_take 2 52 rfl (by kernel_rfl) (by kernel_rfl) (fun w2 c2 => (op_load rfl (by kernel_rfl) (c2.cell 1 (u := .int .i64 _) rfl rfl))) (hsub [0, 1, 2] (by kernel_rfl) rfl _ c79) ?_
    refine wh_take 3 53 rfl (by kernel_rfl) (by kernel_rfl) (fun w2 c2 => (op_makeIf rfl (by kernel_rfl))) (hsub [0, 1, 2] (by kernel_rfl) rfl _ c79) ?_
    refine wh_take 4 54 rfl (by kernel_rfl) (by kernel_rfl) (fun w2 c2 => (op_makeIf rfl (by kernel_rfl))) (hsub [0, 1, 2] (by kernel_rfl) rfl _ c79) ?_
    refine wh_take 5 55 rfl (by kernel_rfl) (by kernel_rfl) (fun w2 c2 => (op_fieldL (m := 1) (k := 1) rfl (by kernel_rfl) rfl)) (hsub [0, 1, 2] (by kernel_rfl) rfl _ c79) ?_
    refine wh_take 6 56 rfl (by kernel_rfl) (by kernel_rfl) (fun w2 c2 => (op_load rfl (by kernel_rfl) (c2.cell 2 (u := .slice _ _ _) rfl rfl))) (hsub [0, 1, 2] (by kernel_rfl) rfl _ c79) ?_
    refine wh_take 7 57 rfl (by kernel_rfl) (by kernel_rfl) (fun w2 c2 => (op_fieldL (m := 1) (k := 1) rfl (by kernel_rfl) rfl)) (hsub [0, 1, 2] (by kernel_rfl) rfl _ c79) ?_
    refine wh_take 8 58 rfl (by kernel_rfl) (by kernel_rfl) (fun w2 c2 => (op_load rfl (by kernel_rfl) (c2.cell 0 (u := .int .i64 _) rfl rfl))) (hsub [0, 1, 2] (by kernel_rfl) rfl _ c79) ?_
    refine wh_take 9 59 rfl (by kernel_rfl) (by kernel_rfl) (fun w2 c2 => (op_indexA 5 rfl rfl (by kernel_rfl) ((hr_p02.old c2).addr h51.1 h51.2) hz_p02.2.2 h51.1 h51.2)) (hsub [0, 1, 2] (by kernel_rfl) rfl _ c79) ?_
    refine wh_take 10 60 rfl (by kernel_rfl) (by kernel_rfl) (fun w2 c2 => (op_field0 rfl (by kernel_rfl))) (hsub [0, 1, 2] (by kernel_rfl) rfl _ c79) ?_
    refine wh_take 11 61 rfl (by kernel_rfl) (by kernel_rfl) (fun w2 c2 => (op_load (v := .string ((ix p0.Containers ((ix p0.Emptyings r7).Container)).ID)) rfl (by kernel_rfl) ((hr_p02.old c2).cell0 h51.1 h51.2 rfl))) (hsub [0, 1, 2] (by kernel_rfl) rfl _ c79) ?_
    refine wh_take 12 62 rfl (by kernel_rfl) (by kernel_rfl) (fun w2 c2 => (op_makeIf rfl (by kernel_rfl))) (hsub [0, 1, 2] (by kernel_rfl) rfl _ c79) ?_
    refine wh_take 13 63 rfl (by kernel_rfl) (by kernel_rfl) (fun w2 c2 => (op_makeIf rfl (by kernel_rfl))) (hsub [0, 1, 2] (by kernel_rfl) rfl _ c79) ?_
    refine wh_take 14 64 rfl (by kernel_rfl) (by kernel_rfl) (fun w2 c2 => (op_fieldL (m := 3) (k := 3) rfl (by kernel_rfl) rfl)) (hsub [0, 1, 2] (by kernel_rfl) rfl _ c79) ?_
    refine wh_take 15 65 rfl (by kernel_rfl) (by kernel_rfl) (fun w2 c2 => (op_load rfl (by kernel_rfl) (c2.cell 0 (u := .int .i64 _) rfl rfl))) (hsub [0, 1, 2] (by kernel_rfl) rfl _ c79) ?_
    refine wh_take 16 66 rfl (by kernel_rfl) (by kernel_rfl) (fun w2 c2 => (op_quoK rfl rfl (by kernel_rfl) h52)) (hsub [0, 1, 2] (by kernel_rfl) rfl _ c79) ?_
    refine wh_take 17 67 rfl (by kernel_rfl) (by kernel_rfl) (fun w2 c2 => (op_makeIf rfl (by kernel_rfl))) (hsub [0, 1, 2] (by kernel_rfl) rfl _ c79) ?_
    refine wh_take 18 68 rfl (by kernel_rfl) (by kernel_rfl) (fun w2 c2 => (op_makeIf rfl (by kernel_rfl))) (hsub [0, 1, 2] (by kernel_rfl) rfl _ c79) ?_
    refine wh_take 19 69 rfl (by kernel_rfl) (by kernel_rfl) (fun w2 c2 => (op_fieldL (m := 3) (k := 3) rfl (by kernel_rfl) rfl)) (hsub [0, 1, 2] (by kernel_rfl) rfl _ c79) ?_
    refine wh_take 20 70 rfl (by kernel_rfl) (by kernel_rfl) (fun w2 c2 => (op_load rfl (by kernel_rfl) (c2.cell 0 (u := .int .i64 _) rfl rfl))) (hsub [0, 1, 2] (by kernel_rfl) rfl _ c79) ?_
    refine wh_take 21 71 rfl (by kernel_rfl) (by kernel_rfl) (fun w2 c2 => (op_remK rfl rfl (by kernel_rfl) h53)) (hsub [0, 1, 2] (by kernel_rfl) rfl _ c79) ?_
    refine wh_take 22 72 rfl (by kernel_rfl) (by kernel_rfl) (fun w2 c2 => (op_makeIf rfl (by kernel_rfl))) (hsub [0, 1, 2] (by kernel_rfl) rfl _ c79) ?_
    refine wh_take 23 73 rfl (by kernel_rfl) (by kernel_rfl) (fun w2 c2 => (op_makeIf rfl (by kernel_rfl))) (hsub [0, 1, 2] (by kernel_rfl) rfl _ c79) ?_
    refine wh_take 24 74 rfl (by kernel_rfl) (by kernel_rfl) (fun w2 c2 => (op_fieldL (m := 2) (k := 2) rfl (by kernel_rfl) rfl)) (hsub [0, 1, 2] (by kernel_rfl) rfl _ c79) ?_
    refine wh_take 25 75 rfl (by kernel_rfl) (by kernel_rfl) (fun w2 c2 => (op_load rfl (by kernel_rfl) (c2.cell 0 (u := .int .i64 _) rfl rfl))) (hsub [0, 1, 2] (by kernel_rfl) rfl _ c79) ?_
    refine wh_take 28 78 rfl (by kernel_rfl) (by kernel_rfl) (fun w2 c2 => (op_fieldL (m := 4) (k := 4) rfl (by kernel_rfl) rfl)) (hsub [0, 1, 2] (by kernel_rfl) rfl _ c79) ?_
    refine wh_take 29 79 rfl (by kernel_rfl) (by kernel_rfl) (fun w2 c2 => (op_load rfl (by kernel_rfl) (c2.cell 1 (u := .int .i64 _) rfl rfl))) (hsub [0, 1, 2] (by kernel_rfl) rfl _ c79) ?_
    refine wh_take 30 80 rfl (by kernel_rfl) (by kernel_rfl) (fun w2 c2 => (op_makeIf rfl (by kernel_rfl))) (hsub [0, 1, 2] (by kernel_rfl) rfl _ c79) ?_
    refine wh_ready [26] (by kernel_rfl) rfl ⟨?_, trivial⟩
    refine ws_call 76 rfl (by kernel_rfl) (op_call (by kernel_rfl)) (m_bill_colon_ok N _ ((ix p0.Emptyings r7).Vehicle) (hs_tab ht c79) r54 h55) ?_
    rintro x w81 ⟨u80, rfl, c82⟩
    replace c82 := c79.call c82
    refine ⟨_, rfl, (hsub [0, 1, 2] (by kernel_rfl) rfl _ c82), ?_⟩
    refine wh_take 27 77 rfl (by kernel_rfl) (by kernel_rfl) (fun w2 c2 => (op_makeIf rfl (by kernel_rfl))) (hsub [0, 1, 2] (by kernel_rfl) rfl _ c82) ?_
    refine wh_ready [31] (by kernel_rfl) rfl ⟨?_, trivial⟩
    refine ws_sliceN 81 (el := 20) (sz := 1) (bytes := 16) (enc := encIf) [(IfV.str 9 (⟨#[101, 109, 112, 116, 121, 105, 110, 103]⟩ : ByteArray)), (IfV.int 3 p1.Ref), (IfV.str 9 (⟨#[111, 102, 32, 99, 111, 110, 116, 97, 105, 110, 101, 114]⟩ : ByteArray)), (IfV.str 9 ((ix p0.Containers ((ix p0.Emptyings r7).Container)).ID)), (IfV.str 9 (⟨#[111, 110, 32, 100, 97, 121]⟩ : ByteArray)), (IfV.int 3 (Int.tdiv ((ix p0.Emptyings r7).At) 86400)), (IfV.str 9 (⟨#[97, 116, 32, 115, 101, 99, 111, 110, 100]⟩ : ByteArray)), (IfV.int 3 (Int.tmod ((ix p0.Emptyings r7).At) 86400)), (IfV.str 9 (⟨#[98, 121, 32, 118, 101, 104, 105, 99, 108, 101]⟩ : ByteArray)), (IfV.str 9 r54), (IfV.int 3 p1.Amount)] rfl (by kernel_rfl) (by kernel_rfl) encIf_len rfl ⟨rfl, rfl, ⟨rfl, rfl, ⟨rfl, rfl, ⟨rfl, rfl, ⟨rfl, rfl, ⟨rfl, rfl, ⟨rfl, rfl, ⟨rfl, rfl, ⟨rfl, rfl, ⟨rfl, rfl, ⟨rfl, rfl, trivial⟩⟩⟩⟩⟩⟩⟩⟩⟩⟩⟩ (by kernel_rfl) (by kernel_rfl) c82 ?_
    intro A83 n84 k85 w86 c87
    refine ⟨(hsub [1, 2, 3] (by kernel_rfl) rfl _ c87), ?_⟩
    refine wh_strong (Hs w0 [ownE 20 1 encIf A83 n84 k85 ([(IfV.str 9 (⟨#[101, 109, 112, 116, 121, 105, 110, 103]⟩ : ByteArray)), (IfV.int 3 p1.Ref), (IfV.str 9 (⟨#[111, 102, 32, 99, 111, 110, 116, 97, 105, 110, 101, 114]⟩ : ByteArray)), (IfV.str 9 ((ix p0.Containers ((ix p0.Emptyings r7).Container)).ID)), (IfV.str 9 (⟨#[111, 110, 32, 100, 97, 121]⟩ : ByteArray)), (IfV.int 3 (Int.tdiv ((ix p0.Emptyings r7).At) 86400)), (IfV.str 9 (⟨#[97, 116, 32, 115, 101, 99, 111, 110, 100]⟩ : ByteArray)), (IfV.int 3 (Int.tmod ((ix p0.Emptyings r7).At) 86400)), (IfV.str 9 (⟨#[98, 121, 32, 118, 101, 104, 105, 99, 108, 101]⟩ : ByteArray)), (IfV.str 9 r54), (IfV.int 3 p1.Amount)]), blkE b11 59 [.int .i64 ((ix p0.Emptyings r7).ID), .int .i64 ((ix p0.Emptyings r7).Container), .int .i64 ((ix p0.Emptyings r7).Vehicle), .int .i64 ((ix p0.Emptyings r7).At), .int .i64 ((ix p0.Emptyings r7).Mass.Lo), .int .i64 ((ix p0.Emptyings r7).Mass.Hi), .bool ((ix p0.Emptyings r7).Void)], blkE b6 66 [.int .i64 p1.Kind, .int .i64 p1.Ref, .int .i64 p1.Count, .int .i64 p1.Price, .int .i64 p1.Amount], blkE b5 28 [.slice A_p01 n_p01 c_p01, .slice A_p02 n_p02 c_p02, .slice A_p03 n_p03 c_p03, .slice A_p04 n_p04 c_p04, .slice A_p05 n_p05 c_p05, .int .i64 p0.Gap]]) (fun w2 c2 => hsub [1, 2, 3] (by kernel_rfl) rfl w2 c2) ?_
    refine wh_ready [32] (by kernel_rfl) rfl ⟨?_, trivial⟩
    refine ws_call 82 rfl (by kernel_rfl) (op_call (by kernel_rfl)) (m_bill_words_ok N _ ([(IfV.str 9 (⟨#[101, 109, 112, 116, 121, 105, 110, 103]⟩ : ByteArray)), (IfV.int 3 p1.Ref), (IfV.str 9 (⟨#[111, 102, 32, 99, 111, 110, 116, 97, 105, 110, 101, 114]⟩ : ByteArray)), (IfV.str 9 ((ix p0.Containers ((ix p0.Emptyings r7).Container)).ID)), (IfV.str 9 (⟨#[111, 110, 32, 100, 97, 121]⟩ : ByteArray)), (IfV.int 3 (Int.tdiv ((ix p0.Emptyings r7).At) 86400)), (IfV.str 9 (⟨#[97, 116, 32, 115, 101, 99, 111, 110, 100]⟩ : ByteArray)), (IfV.int 3 (Int.tmod ((ix p0.Emptyings r7).At) 86400)), (IfV.str 9 (⟨#[98, 121, 32, 118, 101, 104, 105, 99, 108, 101]⟩ : ByteArray)), (IfV.str 9 r54), (IfV.int 3 p1.Amount)]) A83 n84 k85 (c87.own 0 rfl encIf_len) (c87.ownZ 0 rfl) (hs_tab ht c87) r62 h63) ?_
    rintro x w90 ⟨u89, rfl, c91⟩
    replace c91 := c87.call c91
    refine ⟨_, rfl, (hsub [0, 1, 2, 3] (by kernel_rfl) rfl _ c91), ?_⟩
    refine wh_take 33 4 rfl (by kernel_rfl) (by kernel_rfl) (fun w2 c2 => (op_assign (v := .string _) rfl)) (hsub [0, 1, 2, 3] (by kernel_rfl) rfl _ c91) ?_
    refine wh_take 34 5 rfl (by kernel_rfl) (by kernel_rfl) (fun w2 c2 => (op_assign (v := .int .i64 _) rfl)) (hsub [0, 1, 2, 3] (by kernel_rfl) rfl _ c91) ?_
    exact wh_done () (by kernel_rfl) sq (hsub [] (by kernel_rfl) rfl _ c91)
   intro u76
   refine xm_next ?_
   refine cm_ret ?_
   exact xm_retTT rfl (by kernel_rfl) (show _ = Value.string _ from rfl) (by kernel_rfl) (show _ = Value.int .i64 _ from rfl) fun w1 c1 => ⟨(), rfl, hsub [] (by kernel_rfl) rfl w1 c1⟩
/-- bill.Explain -/
def m_bill_Explain (N : Nat) (p0 : ApiAccount) (p1 : ApiBill) (p2 : Int) : Option (ByteArray × Int) :=
 Option.bind (m_bill_Check N p0) fun r7 => (if r7 ≠ 0 then
  some (((⟨#[]⟩ : ByteArray), r7))
 else
  (if ((decide (p2 < 0)) || (decide ((List.length p1.Items : Int) ≤ p2))) = true then
   some (((⟨#[]⟩ : ByteArray), (7 : Int)))
  else
   ck ((0 : Int) ≤ p2 ∧ p2 < (List.length p1.Items : Int)) (
    (if (ix p1.Items p2).Kind = 1 then
     (if ((decide ((ix p1.Items p2).Ref < 0)) || (decide ((List.length p0.Tariffs : Int) ≤ (ix p1.Items p2).Ref))) = true then
      some (((⟨#[]⟩ : ByteArray), (7 : Int)))
     else
      Option.bind (m_bill_colon N ((ix p1.Items p2).Ref)) fun r17 => Option.bind (m_bill_words N ([(IfV.str 9 (⟨#[98, 97, 115, 101]⟩ : ByteArray)), (IfV.int 3 ((ix p1.Items p2).Count)), (IfV.str 9 (⟨#[100, 97, 121, 115, 32, 97, 116]⟩ : ByteArray)), (IfV.int 3 ((ix p1.Items p2).Price)), (IfV.str 9 (⟨#[98, 121, 32, 116, 97, 114, 105, 102, 102]⟩ : ByteArray)), (IfV.str 9 r17), (IfV.int 3 ((ix p1.Items p2).Amount))])) fun r25 => some ((r25, (0 : Int))))
    else
     (andThen
      (if (ix p1.Items p2).Kind = 2 then
       some (.next (decide ((ix p1.Items p2).Kind = 2)))
      else
       some (.next (decide ((ix p1.Items p2).Kind = 3))))
     fun (s56 : Bool) =>
      (if s56 = true then
       Option.bind (m_bill_explainEmptying N p0 (ix p1.Items p2)) fun r60 => some ((r60.1, r60.2))
      else
       (if (ix p1.Items p2).Kind = 4 then
        (if (ix p1.Items p2).Ref = 0 then
         Option.bind (m_bill_words N ([(IfV.str 9 (⟨#[99, 114, 101, 100, 105, 116, 58]⟩ : ByteArray)), (IfV.int 3 ((ix p1.Items p2).Amount))])) fun r68 => some ((r68, (0 : Int)))
        else
         Option.bind (m_bill_colon N ((ix p1.Items p2).Ref)) fun r70 => Option.bind (m_bill_words N ([(IfV.str 9 (⟨#[99, 114, 101, 100, 105, 116, 32, 102, 111, 114, 32, 101, 109, 112, 116, 121, 105, 110, 103]⟩ : ByteArray)), (IfV.str 9 r70), (IfV.int 3 ((ix p1.Items p2).Amount))])) fun r78 => some ((r78, (0 : Int))))
       else
        some (((⟨#[]⟩ : ByteArray), (21 : Int))))))))))
set_option maxHeartbeats 2000000 in
set_option maxRecDepth 20000 in
theorem m_bill_Explain_ok (N : Nat) (w0 : World) (p0 : ApiAccount) (p1 : ApiBill) (p2 : Int) (A_p01 : Option Addr) (n_p01 c_p01 : Nat) (A_p02 : Option Addr) (n_p02 c_p02 : Nat) (A_p03 : Option Addr) (n_p03 c_p03 : Nat) (A_p04 : Option Addr) (n_p04 c_p04 : Nat) (A_p05 : Option Addr) (n_p05 c_p05 : Nat) (A_p11 : Option Addr) (n_p11 c_p11 : Nat) (hr_p01 : RdE w0 2 encApiHousehold A_p01 p0.Households) (hz_p01 : SW A_p01 n_p01 c_p01 (List.length p0.Households)) (hr_p02 : RdE w0 5 encApiContainer A_p02 p0.Containers) (hz_p02 : SW A_p02 n_p02 c_p02 (List.length p0.Containers)) (hr_p03 : RdE w0 4 encApiAssign A_p03 p0.Assigns) (hz_p03 : SW A_p03 n_p03 c_p03 (List.length p0.Assigns)) (hr_p04 : RdE w0 7 encApiEmptying A_p04 p0.Emptyings) (hz_p04 : SW A_p04 n_p04 c_p04 (List.length p0.Emptyings)) (hr_p05 : RdE w0 5 encApiTariff A_p05 p0.Tariffs) (hz_p05 : SW A_p05 n_p05 c_p05 (List.length p0.Tariffs)) (hr_p11 : RdE w0 5 encApiItem A_p11 p1.Items) (hz_p11 : SW A_p11 n_p11 c_p11 (List.length p1.Items)) (ht : Tab w0) (r : ByteArray × Int) (hr : m_bill_Explain N p0 p1 p2 = some r) :
  Ret Tryz.prog 23 [.agg #[.slice A_p01 n_p01 c_p01, .slice A_p02 n_p02 c_p02, .slice A_p03 n_p03 c_p03, .slice A_p04 n_p04 c_p04, .slice A_p05 n_p05 c_p05, .int .i64 p0.Gap], .agg #[.int .i64 p1.ID, .int .i64 p1.Household, .int .i64 p1.When.From, .int .i64 p1.When.To, .slice A_p11 n_p11 c_p11, .int .i64 p1.Total], .int .i64 p2] w0 (fun (r : ByteArray × Int) (_u : Unit) => .tuple #[.string r.1, .int .i64 r.2]) (fun (_r : ByteArray × Int) (_u : Unit) => []) r := by
 refine calls_v (n := 91) r hr Tryz.func23 ?_
 unfold m_bill_Explain
 refine sr ?_
 refine lm_box 3 [.slice _ _ _, .slice _ _ _, .slice _ _ _, .slice _ _ _, .slice _ _ _, .int .i64 _] (by kernel_rfl) rfl ?_
 intro b5
 refine lm_box 4 [.int .i64 _, .int .i64 _, .int .i64 _, .int .i64 _, .slice _ _ _, .int .i64 _] (by kernel_rfl) rfl ?_
 intro b6
 refine la 2 ((7, .int .i64 _) :: (6, .string _) :: _) rfl ?_
 refine nn ?_
 refine cm_seq ?_
 refine sr ?_
 refine v_ 10 (fun _ c1 => oR [.slice _ _ _, .slice _ _ _, .slice _ _ _, .slice _ _ _, .slice _ _ _, .int .i64 _] (c1.cells 1 rfl rfl)) ?_
 refine lm_call 11 (V := (fun (r : Int) (_u : Unit) => .int .i64 r)) (HR := (fun (_r : Int) (_u : Unit) => [])) (by kernel_rfl) (fun w1 => op_call (by kernel_rfl)) (fun r1 hr1 w1 c1 => m_bill_Check_ok N w1 p0 A_p01 n_p01 c_p01 A_p02 n_p02 c_p02 A_p03 n_p03 c_p03 A_p04 n_p04 c_p04 A_p05 n_p05 c_p05 (hr_p01.old c1) hz_p01 (hr_p02.old c1) hz_p02 (hr_p03.old c1) hz_p03 (hr_p04.old c1) hz_p04 (hr_p05.old c1) hz_p05 r1 hr1) ?_
 intro r7 u8
 refine la 1 ((8, .int .i64 _) :: _) rfl ?_
 refine nn ?_
 refine sr ?_
 refine la 2 ((13, .bool _) :: (12, .int .i64 _) :: _) rfl ?_
 refine nn ?_
 refine cm_cond (by kernel_rfl) rfl (fun h9 => ?_) (fun h9 => ?_)
 ·refine sr ?_
  refine la 3 ((7, .int .i64 _) :: (6, .string _) :: (14, .int .i64 _) :: _) rfl ?_
  refine nn ?_
  refine cm_ret ?_
  refine xm_thenR ?_
  exact xm_retTT rfl (by kernel_rfl) (show _ = Value.string _ from rfl) (by kernel_rfl) (show _ = Value.int .i64 _ from rfl) fun w1 c1 => ⟨(), rfl, hsub [] (by kernel_rfl) rfl w1 c1⟩
 ·refine sk ?_
  refine cm_seq ?_
  refine cm_seq ?_
  refine cm_cutE [(23, .bool ((decide (p2 < 0)) || (decide ((List.length p1.Items : Int) ≤ p2))))] ?_ ?_
  ·refine qa 1 ((15, .int .i64 _) :: _) rfl ?_
   refine qd 16 (fun _ _ => op_lss rfl rfl) (fun h10 => ?_) (fun h10 => ?_)
   ·refine qa 7 ((23, .bool true) :: (22, undef) :: (21, undef) :: (20, undef) :: (19, undef) :: (18, undef) :: (17, .bool true) :: _) rfl ?_
    exact leaf_q (sub_out 9 _ rfl (by kernel_rfl) ⟨(congrArg Value.bool (by rw [decide_eq_true h10] <;> rfl)), trivial⟩)
   ·refine qa 2 ((18, .int .i64 _) :: (17, .bool false) :: _) rfl ?_
    refine q_ 19 (fun _ _ => oF 4 4 rfl) ?_
    refine q_ 20 (fun _ c1 => oL (c1.cell 0 (u := .slice _ _ _) rfl rfl)) ?_
    refine q_ 21 (fun _ _ => op_lenN rfl (by kernel_rfl) hz_p11.2.2) ?_
    refine qa 2 ((23, .bool _) :: (22, .bool _) :: _) rfl ?_
    exact leaf_q (sub_out 9 _ rfl (by kernel_rfl) ⟨(congrArg Value.bool (by rw [decide_eq_false h10] <;> rfl)), trivial⟩)
  refine xm_next ?_
  refine cm_condB (by kernel_rfl) rfl (fun h11 => ?_) (fun h11 => ?_)
  ·refine sr ?_
   refine la 2 ((7, .int .i64 _) :: (6, .string _) :: _) rfl ?_
   refine nn ?_
   refine cm_ret ?_
   refine xm_thenR ?_
   exact xm_retTT rfl (by kernel_rfl) (show _ = Value.string _ from rfl) (by kernel_rfl) (show _ = Value.int .i64 _ from rfl) fun w1 c1 => ⟨(), rfl, hsub [] (by kernel_rfl) rfl w1 c1⟩
  ·refine sk ?_
   refine sr ?_
   refine v_ 24 (fun _ _ => oF 4 4 rfl) ?_
   refine v_ 25 (fun _ c1 => oL (c1.cell 0 (u := .slice _ _ _) rfl rfl)) ?_
   refine la 1 ((26, .int .i64 _) :: _) rfl ?_
   refine lm_ck (fun h12 => ?_)
   refine v_ 27 (fun _ c1 => oI 5 rfl rfl ((hr_p11.old c1).addr h12.1 h12.2) hz_p11.2.2 h12) ?_
   refine v_ 28 (fun _ c1 => oR [.int .i64 ((ix p1.Items p2).Kind), .int .i64 ((ix p1.Items p2).Ref), .int .i64 ((ix p1.Items p2).Count), .int .i64 ((ix p1.Items p2).Price), .int .i64 ((ix p1.Items p2).Amount)] ((hr_p11.old c1).row h12.1 h12.2)) ?_
   refine lm_alloc 9 [.int .i64 0, .int .i64 0, .int .i64 0, .int .i64 0, .int .i64 0] (v := .agg #[.int .i64 0, .int .i64 0, .int .i64 0, .int .i64 0, .int .i64 0]) (by kernel_rfl) (by kernel_rfl) rfl ?_
   intro b13
   refine lm_storeA 0 [.int .i64 _, .int .i64 _, .int .i64 _, .int .i64 _, .int .i64 _] [_, _, _, _, _] (H' := [blkE _ _ [_, _, _, _, _], _, _]) (by kernel_rfl) rfl rfl (by kernel_rfl) rfl rfl (by kernel_rfl) rfl rfl ?_
   refine nn ?_
   refine cm_seq ?_
   refine sr ?_
   refine v_ 29 (fun _ _ => oF 0 0 rfl) ?_
   refine v_ 30 (fun _ c1 => oL (c1.cell 0 (u := .int .i64 _) rfl rfl)) ?_
   refine nn ?_
   refine cm_block ?_
   refine sr ?_
   refine la 2 ((31, .bool _) :: (32, .bool _) :: _) rfl ?_
   refine nn ?_
   refine cm_cond (by kernel_rfl) rfl (fun h14 => ?_) (fun h14 => ?_)
   ·refine cm_seq ?_
    refine cm_seq ?_
    refine cm_cutE [(43, .bool ((decide ((ix p1.Items p2).Ref < 0)) || (decide ((List.length p0.Tariffs : Int) ≤ (ix p1.Items p2).Ref))))] ?_ ?_
    ·refine q_ 33 (fun _ _ => oF 1 1 rfl) ?_
     refine q_ 34 (fun _ c1 => oL (c1.cell 0 (u := .int .i64 _) rfl rfl)) ?_
     refine qd 35 (fun _ _ => op_lss rfl rfl) (fun h15 => ?_) (fun h15 => ?_)
     ·refine qa 8 ((43, .bool true) :: (42, undef) :: (41, undef) :: (40, undef) :: (39, undef) :: (38, undef) :: (37, undef) :: (36, .bool true) :: _) rfl ?_
      exact leaf_q (sub_out 11 _ rfl (by kernel_rfl) ⟨(congrArg Value.bool (by rw [decide_eq_true h15] <;> rfl)), trivial⟩)
     ·refine qa 1 ((36, .bool false) :: _) rfl ?_
      refine q_ 37 (fun _ _ => oF 1 1 rfl) ?_
      refine q_ 38 (fun _ c1 => oL (c1.cell 0 (u := .int .i64 _) rfl rfl)) ?_
      refine q_ 39 (fun _ _ => oF 4 4 rfl) ?_
      refine q_ 40 (fun _ c1 => oL (c1.cell 2 (u := .slice _ _ _) rfl rfl)) ?_
      refine q_ 41 (fun _ _ => op_lenN rfl (by kernel_rfl) hz_p05.2.2) ?_
      refine qa 2 ((43, .bool _) :: (42, .bool _) :: _) rfl ?_
      exact leaf_q (sub_out 11 _ rfl (by kernel_rfl) ⟨(congrArg Value.bool (by rw [decide_eq_false h15] <;> rfl)), trivial⟩)
    refine xm_next ?_
    refine cm_condB (by kernel_rfl) rfl (fun h16 => ?_) (fun h16 => ?_)
    ·refine sr ?_
     refine la 2 ((7, .int .i64 _) :: (6, .string _) :: _) rfl ?_
     refine nn ?_
     refine cm_ret ?_
     refine xm_thenR ?_
     refine xm_inR ?_
     refine xm_thenR ?_
     exact xm_retTT rfl (by kernel_rfl) (show _ = Value.string _ from rfl) (by kernel_rfl) (show _ = Value.int .i64 _ from rfl) fun w1 c1 => ⟨(), rfl, hsub [] (by kernel_rfl) rfl w1 c1⟩
    ·refine sk ?_
     refine cm_seq ?_
     refine cm_bind fun r17 h18 => ?_
     refine cm_bind fun r25 h26 => ?_
     refine cm_held (ξ := Unit) (fun u39 => [(6, .string r25), (7, .int .i64 0)]) (fun u39 => []) [blkE b13 66 [.int .i64 ((ix p1.Items p2).Kind), .int .i64 ((ix p1.Items p2).Ref), .int .i64 ((ix p1.Items p2).Count), .int .i64 ((ix p1.Items p2).Price), .int .i64 ((ix p1.Items p2).Amount)], blkE b6 39 [.int .i64 p1.ID, .int .i64 p1.Household, .int .i64 p1.When.From, .int .i64 p1.When.To, .slice A_p11 n_p11 c_p11, .int .i64 p1.Total], blkE b5 28 [.slice A_p01 n_p01 c_p01, .slice A_p02 n_p02 c_p02, .slice A_p03 n_p03 c_p03, .slice A_p04 n_p04 c_p04, .slice A_p05 n_p05 c_p05, .int .i64 p0.Gap]] 20 (by kernel_rfl) (by rfl) (hsub [0, 1, 2] (by kernel_rfl) (by rfl)) ?_ ?_
     ·intro w41 c42
      refine wh_take 0 44 rfl (by kernel_rfl) (by kernel_rfl) (fun w2 c2 => (op_makeIf rfl (by kernel_rfl))) (hsub [0, 1, 2] (by kernel_rfl) rfl _ c42) ?_
      refine wh_take 1 45 rfl (by kernel_rfl) (by kernel_rfl) (fun w2 c2 => (op_fieldL (m := 2) (k := 2) rfl (by kernel_rfl) rfl)) (hsub [0, 1, 2] (by kernel_rfl) rfl _ c42) ?_
      refine wh_take 2 46 rfl (by kernel_rfl) (by kernel_rfl) (fun w2 c2 => (op_load rfl (by kernel_rfl) (c2.cell 0 (u := .int .i64 _) rfl rfl))) (hsub [0, 1, 2] (by kernel_rfl) rfl _ c42) ?_
      refine wh_take 3 47 rfl (by kernel_rfl) (by kernel_rfl) (fun w2 c2 => (op_makeIf rfl (by kernel_rfl))) (hsub [0, 1, 2] (by kernel_rfl) rfl _ c42) ?_
      refine wh_take 4 48 rfl (by kernel_rfl) (by kernel_rfl) (fun w2 c2 => (op_makeIf rfl (by kernel_rfl))) (hsub [0, 1, 2] (by kernel_rfl) rfl _ c42) ?_
      refine wh_take 5 49 rfl (by kernel_rfl) (by kernel_rfl) (fun w2 c2 => (op_fieldL (m := 3) (k := 3) rfl (by kernel_rfl) rfl)) (hsub [0, 1, 2] (by kernel_rfl) rfl _ c42) ?_
      refine wh_take 6 50 rfl (by kernel_rfl) (by kernel_rfl) (fun w2 c2 => (op_load rfl (by kernel_rfl) (c2.cell 0 (u := .int .i64 _) rfl rfl))) (hsub [0, 1, 2] (by kernel_rfl) rfl _ c42) ?_
      refine wh_take 7 51 rfl (by kernel_rfl) (by kernel_rfl) (fun w2 c2 => (op_makeIf rfl (by kernel_rfl))) (hsub [0, 1, 2] (by kernel_rfl) rfl _ c42) ?_
      refine wh_take 8 52 rfl (by kernel_rfl) (by kernel_rfl) (fun w2 c2 => (op_makeIf rfl (by kernel_rfl))) (hsub [0, 1, 2] (by kernel_rfl) rfl _ c42) ?_
      refine wh_take 9 53 rfl (by kernel_rfl) (by kernel_rfl) (fun w2 c2 => (op_fieldL (m := 1) (k := 1) rfl (by kernel_rfl) rfl)) (hsub [0, 1, 2] (by kernel_rfl) rfl _ c42) ?_
      refine wh_take 10 54 rfl (by kernel_rfl) (by kernel_rfl) (fun w2 c2 => (op_load rfl (by kernel_rfl) (c2.cell 0 (u := .int .i64 _) rfl rfl))) (hsub [0, 1, 2] (by kernel_rfl) rfl _ c42) ?_
      refine wh_take 13 57 rfl (by kernel_rfl) (by kernel_rfl) (fun w2 c2 => (op_fieldL (m := 4) (k := 4) rfl (by kernel_rfl) rfl)) (hsub [0, 1, 2] (by kernel_rfl) rfl _ c42) ?_
      refine wh_take 14 58 rfl (by kernel_rfl) (by kernel_rfl) (fun w2 c2 => (op_load rfl (by kernel_rfl) (c2.cell 0 (u := .int .i64 _) rfl rfl))) (hsub [0, 1, 2] (by kernel_rfl) rfl _ c42) ?_
      refine wh_take 15 59 rfl (by kernel_rfl) (by kernel_rfl) (fun w2 c2 => (op_makeIf rfl (by kernel_rfl))) (hsub [0, 1, 2] (by kernel_rfl) rfl _ c42) ?_
      refine wh_ready [11] (by kernel_rfl) rfl ⟨?_, trivial⟩
      refine ws_call 55 rfl (by kernel_rfl) (op_call (by kernel_rfl)) (m_bill_colon_ok N _ ((ix p1.Items p2).Ref) (hs_tab ht c42) r17 h18) ?_
      rintro x w44 ⟨u43, rfl, c45⟩
      replace c45 := c42.call c45
      refine ⟨_, rfl, (hsub [0, 1, 2] (by kernel_rfl) rfl _ c45), ?_⟩
      refine wh_take 12 56 rfl (by kernel_rfl) (by kernel_rfl) (fun w2 c2 => (op_makeIf rfl (by kernel_rfl))) (hsub [0, 1, 2] (by kernel_rfl) rfl _ c45) ?_
      refine wh_ready [16] (by kernel_rfl) rfl ⟨?_, trivial⟩
      refine ws_sliceN 60 (el := 20) (sz := 1) (bytes := 16) (enc := encIf) [(IfV.str 9 (⟨#[98, 97, 115, 101]⟩ : ByteArray)), (IfV.int 3 ((ix p1.Items p2).Count)), (IfV.str 9 (⟨#[100, 97, 121, 115, 32, 97, 116]⟩ : ByteArray)), (IfV.int 3 ((ix p1.Items p2).Price)), (IfV.str 9 (⟨#[98, 121, 32, 116, 97, 114, 105, 102, 102]⟩ : ByteArray)), (IfV.str 9 r17), (IfV.int 3 ((ix p1.Items p2).Amount))] rfl (by kernel_rfl) (by kernel_rfl) encIf_len rfl ⟨rfl, rfl, ⟨rfl, rfl, ⟨rfl, rfl, ⟨rfl, rfl, ⟨rfl, rfl, ⟨rfl, rfl, ⟨rfl, rfl, trivial⟩⟩⟩⟩⟩⟩⟩ (by kernel_rfl) (by kernel_rfl) c45 ?_
      intro A46 n47 k48 w49 c50
      refine ⟨(hsub [1, 2, 3] (by kernel_rfl) rfl _ c50), ?_⟩
      refine wh_strong (Hs w0 [ownE 20 1 encIf A46 n47 k48 ([(IfV.str 9 (⟨#[98, 97, 115, 101]⟩ : ByteArray)), (IfV.int 3 ((ix p1.Items p2).Count)), (IfV.str 9 (⟨#[100, 97, 121, 115, 32, 97, 116]⟩ : ByteArray)), (IfV.int 3 ((ix p1.Items p2).Price)), (IfV.str 9 (⟨#[98, 121, 32, 116, 97, 114, 105, 102, 102]⟩ : ByteArray)), (IfV.str 9 r17), (IfV.int 3 ((ix p1.Items p2).Amount))]), blkE b13 66 [.int .i64 ((ix p1.Items p2).Kind), .int .i64 ((ix p1.Items p2).Ref), .int .i64 ((ix p1.Items p2).Count), .int .i64 ((ix p1.Items p2).Price), .int .i64 ((ix p1.Items p2).Amount)], blkE b6 39 [.int .i64 p1.ID, .int .i64 p1.Household, .int .i64 p1.When.From, .int .i64 p1.When.To, .slice A_p11 n_p11 c_p11, .int .i64 p1.Total], blkE b5 28 [.slice A_p01 n_p01 c_p01, .slice A_p02 n_p02 c_p02, .slice A_p03 n_p03 c_p03, .slice A_p04 n_p04 c_p04, .slice A_p05 n_p05 c_p05, .int .i64 p0.Gap]]) (fun w2 c2 => hsub [1, 2, 3] (by kernel_rfl) rfl w2 c2) ?_
      refine wh_ready [17] (by kernel_rfl) rfl ⟨?_, trivial⟩
      refine ws_call 61 rfl (by kernel_rfl) (op_call (by kernel_rfl)) (m_bill_words_ok N _ ([(IfV.str 9 (⟨#[98, 97, 115, 101]⟩ : ByteArray)), (IfV.int 3 ((ix p1.Items p2).Count)), (IfV.str 9 (⟨#[100, 97, 121, 115, 32, 97, 116]⟩ : ByteArray)), (IfV.int 3 ((ix p1.Items p2).Price)), (IfV.str 9 (⟨#[98, 121, 32, 116, 97, 114, 105, 102, 102]⟩ : ByteArray)), (IfV.str 9 r17), (IfV.int 3 ((ix p1.Items p2).Amount))]) A46 n47 k48 (c50.own 0 rfl encIf_len) (c50.ownZ 0 rfl) (hs_tab ht c50) r25 h26) ?_
      rintro x w53 ⟨u52, rfl, c54⟩
      replace c54 := c50.call c54
      refine ⟨_, rfl, (hsub [0, 1, 2, 3] (by kernel_rfl) rfl _ c54), ?_⟩
      refine wh_take 18 6 rfl (by kernel_rfl) (by kernel_rfl) (fun w2 c2 => (op_assign (v := .string _) rfl)) (hsub [0, 1, 2, 3] (by kernel_rfl) rfl _ c54) ?_
      refine wh_take 19 7 rfl (by kernel_rfl) (by kernel_rfl) (fun w2 c2 => (op_assign (v := .int .i64 _) rfl)) (hsub [0, 1, 2, 3] (by kernel_rfl) rfl _ c54) ?_
      exact wh_done () (by kernel_rfl) sq (hsub [] (by kernel_rfl) rfl _ c54)
     intro u39
     refine xm_next ?_
     refine cm_ret ?_
     refine xm_inR ?_
     refine xm_thenR ?_
     exact xm_retTT rfl (by kernel_rfl) (show _ = Value.string _ from rfl) (by kernel_rfl) (show _ = Value.int .i64 _ from rfl) fun w1 c1 => ⟨(), rfl, hsub [] (by kernel_rfl) rfl w1 c1⟩
   ·refine cm_join (σ := Bool) (ξ := Unit) (fun s56 u57 => [(3, .pointer (some ⟨b5, 0, none⟩)), (9, .pointer (some ⟨b13, 0, none⟩)), (30, .int .i64 ((ix p1.Items p2).Kind)), (62, .bool s56)]) (fun s56 u57 => [blkE b5 28 [.slice A_p01 n_p01 c_p01, .slice A_p02 n_p02 c_p02, .slice A_p03 n_p03 c_p03, .slice A_p04 n_p04 c_p04, .slice A_p05 n_p05 c_p05, .int .i64 p0.Gap], blkE b13 66 [.int .i64 ((ix p1.Items p2).Kind), .int .i64 ((ix p1.Items p2).Ref), .int .i64 ((ix p1.Items p2).Count), .int .i64 ((ix p1.Items p2).Price), .int .i64 ((ix p1.Items p2).Amount)]]) ?_ ?_
    ·refine sr ?_
     refine la 2 ((62, .bool _) :: (63, .bool _) :: _) rfl ?_
     refine nn ?_
     refine cm_cond (by kernel_rfl) rfl (fun h58 => ?_) (fun h58 => ?_)
     ·refine cm_skip ?_
      exact xm_lnext () sq (sh [2, 0])
     ·refine cm_region ?_
      refine la 2 ((62, .bool _) :: (64, .bool _) :: _) rfl ?_
      refine lm_nil ?_
      exact xm_lnext () sq (sh [2, 0])
    intro s56 u57
    refine cm_condB (by kernel_rfl) rfl (fun h59 => ?_) (fun h59 => ?_)
    ·refine sr ?_
     refine v_ 65 (fun _ c1 => oR [.slice _ _ _, .slice _ _ _, .slice _ _ _, .slice _ _ _, .slice _ _ _, .int .i64 _] (c1.cells 0 rfl rfl)) ?_
     refine v_ 66 (fun _ c1 => oR [.int .i64 _, .int .i64 _, .int .i64 _, .int .i64 _, .int .i64 _] (c1.cells 1 rfl rfl)) ?_
     refine lm_call 67 (V := (fun (r : ByteArray × Int) (_u : Unit) => .tuple #[.string r.1, .int .i64 r.2])) (HR := (fun (_r : ByteArray × Int) (_u : Unit) => [])) (by kernel_rfl) (fun w1 => op_call (by kernel_rfl)) (fun r1 hr1 w1 c1 => m_bill_explainEmptying_ok N w1 p0 (ix p1.Items p2) A_p01 n_p01 c_p01 A_p02 n_p02 c_p02 A_p03 n_p03 c_p03 A_p04 n_p04 c_p04 A_p05 n_p05 c_p05 (hr_p01.old c1) hz_p01 (hr_p02.old c1) hz_p02 (hr_p03.old c1) hz_p03 (hr_p04.old c1) hz_p04 (hr_p05.old c1) hz_p05 (hs_tab ht c1) r1 hr1) ?_
     intro r60 u61
     refine la 4 ((7, .int .i64 _) :: (6, .string _) :: (69, .int .i64 _) :: (68, .string _) :: _) rfl ?_
     refine nn ?_
     refine cm_ret ?_
     refine xm_inR ?_
     refine xm_thenR ?_
     exact xm_retTT rfl (by kernel_rfl) (show _ = Value.string _ from rfl) (by kernel_rfl) (show _ = Value.int .i64 _ from rfl) fun w1 c1 => ⟨(), rfl, hsub [] (by kernel_rfl) rfl w1 c1⟩
    ·refine sr ?_
     refine la 2 ((70, .bool _) :: (71, .bool _) :: _) rfl ?_
     refine nn ?_
     refine cm_cond (by kernel_rfl) rfl (fun h62 => ?_) (fun h62 => ?_)
     ·refine cm_seq ?_
      refine sr ?_
      refine v_ 72 (fun _ _ => oF 1 1 rfl) ?_
      refine v_ 73 (fun _ c1 => oL (c1.cell 1 (u := .int .i64 _) rfl rfl)) ?_
      refine la 1 ((74, .bool _) :: _) rfl ?_
      refine nn ?_
      refine cm_cond (by kernel_rfl) rfl (fun h63 => ?_) (fun h63 => ?_)
      ·refine sr ?_
       refine v_ 75 (fun _ _ => op_makeIf rfl (by kernel_rfl)) ?_
       refine v_ 76 (fun _ _ => oF 4 4 rfl) ?_
       refine v_ 77 (fun _ c1 => oL (c1.cell 1 (u := .int .i64 _) rfl rfl)) ?_
       refine v_ 78 (fun _ _ => op_makeIf rfl (by kernel_rfl)) ?_
       refine lm_sliceN 79 (el := 20) (sz := 1) (bytes := 16) (enc := encIf) [(IfV.str 9 (⟨#[99, 114, 101, 100, 105, 116, 58]⟩ : ByteArray)), (IfV.int 3 ((ix p1.Items p2).Amount))] (by kernel_rfl) (by kernel_rfl) encIf_len rfl ⟨rfl, rfl, ⟨rfl, rfl, trivial⟩⟩ (by kernel_rfl) (by kernel_rfl) ?_
       intro A64 n65 k66 h67
       refine lm_call 80 (V := (fun (r : ByteArray) (_u : Unit) => .string r)) (HR := (fun (_r : ByteArray) (_u : Unit) => [])) (by kernel_rfl) (fun w1 => op_call (by kernel_rfl)) (fun r1 hr1 w1 c1 => m_bill_words_ok N w1 ([(IfV.str 9 (⟨#[99, 114, 101, 100, 105, 116, 58]⟩ : ByteArray)), (IfV.int 3 ((ix p1.Items p2).Amount))]) A64 n65 k66 (c1.own 0 rfl encIf_len) (c1.ownZ 0 rfl) (hs_tab ht c1) r1 hr1) ?_
       intro r68 u69
       refine la 2 ((7, .int .i64 _) :: (6, .string _) :: _) rfl ?_
       refine nn ?_
       refine cm_ret ?_
       refine xm_thenR ?_
       refine xm_inR ?_
       refine xm_thenR ?_
       exact xm_retTT rfl (by kernel_rfl) (show _ = Value.string _ from rfl) (by kernel_rfl) (show _ = Value.int .i64 _ from rfl) fun w1 c1 => ⟨(), rfl, hsub [] (by kernel_rfl) rfl w1 c1⟩
      ·refine sk ?_
       refine cm_seq ?_
       refine cm_bind fun r70 h71 => ?_
       refine cm_bind fun r78 h79 => ?_
       refine cm_held (ξ := Unit) (fun u92 => [(6, .string r78), (7, .int .i64 0)]) (fun u92 => []) [blkE b5 28 [.slice A_p01 n_p01 c_p01, .slice A_p02 n_p02 c_p02, .slice A_p03 n_p03 c_p03, .slice A_p04 n_p04 c_p04, .slice A_p05 n_p05 c_p05, .int .i64 p0.Gap], blkE b13 66 [.int .i64 ((ix p1.Items p2).Kind), .int .i64 ((ix p1.Items p2).Ref), .int .i64 ((ix p1.Items p2).Count), .int .i64 ((ix p1.Items p2).Price), .int .i64 ((ix p1.Items p2).Amount)]] 12 (by kernel_rfl) (by rfl) (hsub [0, 1] (by kernel_rfl) (by rfl)) ?_ ?_
       ·intro w94 c95
        refine wh_take 0 81 rfl (by kernel_rfl) (by kernel_rfl) (fun w2 c2 => (op_makeIf rfl (by kernel_rfl))) (hsub [0, 1] (by kernel_rfl) rfl _ c95) ?_
        refine wh_take 1 82 rfl (by kernel_rfl) (by kernel_rfl) (fun w2 c2 => (op_fieldL (m := 1) (k := 1) rfl (by kernel_rfl) rfl)) (hsub [0, 1] (by kernel_rfl) rfl _ c95) ?_
        refine wh_take 2 83 rfl (by kernel_rfl) (by kernel_rfl) (fun w2 c2 => (op_load rfl (by kernel_rfl) (c2.cell 1 (u := .int .i64 _) rfl rfl))) (hsub [0, 1] (by kernel_rfl) rfl _ c95) ?_
        refine wh_take 5 86 rfl (by kernel_rfl) (by kernel_rfl) (fun w2 c2 => (op_fieldL (m := 4) (k := 4) rfl (by kernel_rfl) rfl)) (hsub [0, 1] (by kernel_rfl) rfl _ c95) ?_
        refine wh_take 6 87 rfl (by kernel_rfl) (by kernel_rfl) (fun w2 c2 => (op_load rfl (by kernel_rfl) (c2.cell 1 (u := .int .i64 _) rfl rfl))) (hsub [0, 1] (by kernel_rfl) rfl _ c95) ?_
        refine wh_take 7 88 rfl (by kernel_rfl) (by kernel_rfl) (fun w2 c2 => (op_makeIf rfl (by kernel_rfl))) (hsub [0, 1] (by kernel_rfl) rfl _ c95) ?_
        refine wh_ready [3] (by kernel_rfl) rfl ⟨?_, trivial⟩
        refine ws_call 84 rfl (by kernel_rfl) (op_call (by kernel_rfl)) (m_bill_colon_ok N _ ((ix p1.Items p2).Ref) (hs_tab ht c95) r70 h71) ?_
        rintro x w97 ⟨u96, rfl, c98⟩
        replace c98 := c95.call c98
        refine ⟨_, rfl, (hsub [0, 1] (by kernel_rfl) rfl _ c98), ?_⟩
        refine wh_take 4 85 rfl (by kernel_rfl) (by kernel_rfl) (fun w2 c2 => (op_makeIf rfl (by kernel_rfl))) (hsub [0, 1] (by kernel_rfl) rfl _ c98) ?_
        refine wh_ready [8] (by kernel_rfl) rfl ⟨?_, trivial⟩
        refine ws_sliceN 89 (el := 20) (sz := 1) (bytes := 16) (enc := encIf) [(IfV.str 9 (⟨#[99, 114, 101, 100, 105, 116, 32, 102, 111, 114, 32, 101, 109, 112, 116, 121, 105, 110, 103]⟩ : ByteArray)), (IfV.str 9 r70), (IfV.int 3 ((ix p1.Items p2).Amount))] rfl (by kernel_rfl) (by kernel_rfl) encIf_len rfl ⟨rfl, rfl, ⟨rfl, rfl, ⟨rfl, rfl, trivial⟩⟩⟩ (by kernel_rfl) (by kernel_rfl) c98 ?_
        intro A99 n100 k101 w102 c103
        refine ⟨(hsub [1, 2] (by kernel_rfl) rfl _ c103), ?_⟩
        refine wh_strong (Hs w0 [ownE 20 1 encIf A99 n100 k101 ([(IfV.str 9 (⟨#[99, 114, 101, 100, 105, 116, 32, 102, 111, 114, 32, 101, 109, 112, 116, 121, 105, 110, 103]⟩ : ByteArray)), (IfV.str 9 r70), (IfV.int 3 ((ix p1.Items p2).Amount))]), blkE b5 28 [.slice A_p01 n_p01 c_p01, .slice A_p02 n_p02 c_p02, .slice A_p03 n_p03 c_p03, .slice A_p04 n_p04 c_p04, .slice A_p05 n_p05 c_p05, .int .i64 p0.Gap], blkE b13 66 [.int .i64 ((ix p1.Items p2).Kind), .int .i64 ((ix p1.Items p2).Ref), .int .i64 ((ix p1.Items p2).Count), .int .i64 ((ix p1.Items p2).Price), .int .i64 ((ix p1.Items p2).Amount)]]) (fun w2 c2 => hsub [1, 2] (by kernel_rfl) rfl w2 c2) ?_
        refine wh_ready [9] (by kernel_rfl) rfl ⟨?_, trivial⟩
        refine ws_call 90 rfl (by kernel_rfl) (op_call (by kernel_rfl)) (m_bill_words_ok N _ ([(IfV.str 9 (⟨#[99, 114, 101, 100, 105, 116, 32, 102, 111, 114, 32, 101, 109, 112, 116, 121, 105, 110, 103]⟩ : ByteArray)), (IfV.str 9 r70), (IfV.int 3 ((ix p1.Items p2).Amount))]) A99 n100 k101 (c103.own 0 rfl encIf_len) (c103.ownZ 0 rfl) (hs_tab ht c103) r78 h79) ?_
        rintro x w106 ⟨u105, rfl, c107⟩
        replace c107 := c103.call c107
        refine ⟨_, rfl, (hsub [0, 1, 2] (by kernel_rfl) rfl _ c107), ?_⟩
        refine wh_take 10 6 rfl (by kernel_rfl) (by kernel_rfl) (fun w2 c2 => (op_assign (v := .string _) rfl)) (hsub [0, 1, 2] (by kernel_rfl) rfl _ c107) ?_
        refine wh_take 11 7 rfl (by kernel_rfl) (by kernel_rfl) (fun w2 c2 => (op_assign (v := .int .i64 _) rfl)) (hsub [0, 1, 2] (by kernel_rfl) rfl _ c107) ?_
        exact wh_done () (by kernel_rfl) sq (hsub [] (by kernel_rfl) rfl _ c107)
       intro u92
       refine xm_next ?_
       refine cm_ret ?_
       refine xm_inR ?_
       refine xm_thenR ?_
       exact xm_retTT rfl (by kernel_rfl) (show _ = Value.string _ from rfl) (by kernel_rfl) (show _ = Value.int .i64 _ from rfl) fun w1 c1 => ⟨(), rfl, hsub [] (by kernel_rfl) rfl w1 c1⟩
     ·refine cm_skip ?_
      refine xm_inN ?_
      refine xm_next ?_
      refine sr ?_
      refine la 2 ((7, .int .i64 _) :: (6, .string _) :: _) rfl ?_
      refine nn ?_
      refine cm_ret ?_
      exact xm_retTT rfl (by kernel_rfl) (show _ = Value.string _ from rfl) (by kernel_rfl) (show _ = Value.int .i64 _ from rfl) fun w1 c1 => ⟨(), rfl, hsub [] (by kernel_rfl) rfl w1 c1⟩
end Go.Proofs.YtpbgfdmkebnjgaaGreatDoor
