/- Models of functions, and that the code follows them. Written by deco.py. -/
import Derived.Test.YtpbgfdmkebnjgaaGreatDoorBP4
namespace Go.Proofs.YtpbgfdmkebnjgaaGreatDoor
open Go.RowKit
set_option linter.unusedSectionVars false
variable [JF]

theorem op_eqApiItem {e : Env} {w : World} {d : Option Tmp} {ty : TypeId} {ps : String} {af : Array Edge} {g : Option (Nat × Bool)} {x y : Operand} (a b : ApiItem) (hx : eev e x = .agg (encApiItem a).toArray) (hy : eev e y = .agg (encApiItem b).toArray) : OpV Tryz.prog e w ⟨d, .binOp .eql 66 x y 66, ty, ps, af, g⟩ (.bool (decide (a = b))) :=
 op_eqFlat (cs := encApiItem a) (ds := encApiItem b) hx hy Tryz.underlying66 (by kernel_rfl) (by kernel_rfl) (by kernel_rfl) (by cases a; cases b; simp [celsEq, celEq, encApiItem])
theorem op_neApiItem {e : Env} {w : World} {d : Option Tmp} {ty : TypeId} {ps : String} {af : Array Edge} {g : Option (Nat × Bool)} {x y : Operand} (a b : ApiItem) (hx : eev e x = .agg (encApiItem a).toArray) (hy : eev e y = .agg (encApiItem b).toArray) : OpV Tryz.prog e w ⟨d, .binOp .neq 66 x y 66, ty, ps, af, g⟩ (.bool (decide (a ≠ b))) := by
 have h := op_neqFlat (t' := 66) (d := d) (ty := ty) (ps := ps) (af := af) (g := g) (w := w) (cs := encApiItem a) (ds := encApiItem b) (b := decide (a = b)) hx hy Tryz.underlying66 (by kernel_rfl) (by kernel_rfl) (by kernel_rfl) (by cases a; cases b; simp [celsEq, celEq, encApiItem])
 rwa [← decide_not] at h
/-- slices.Equal -/
def m_slices_Equal (N : Nat) (p0 : (List ApiItem)) (p1 : (List ApiItem)) : Option (Bool) :=
 (if (List.length p0 : Int) ≠ (List.length p1 : Int) then
  some (false)
 else
  (andThen
   (loopM (fun (s43 : Int) =>
    (if s43 < (List.length p0 : Int) then
     ck ((0 : Int) ≤ s43 ∧ s43 < (List.length p0 : Int)) (
      ck ((0 : Int) ≤ s43 ∧ s43 < (List.length p1 : Int)) (
       (if (ix p0 s43) ≠ (ix p1 s43) then
        some (.done (.done (false)))
       else
        ck (I64 (s43 + (1 : Int))) (
         some (.next (s43 + (1 : Int)))))))
    else
     some (.done (.next ())))) N (0 : Int))
  fun (_s27 : Unit) =>
   some (true)))
set_option maxRecDepth 20000 in
theorem m_slices_Equal_ok (N : Nat) (w0 : World) (p0 : (List ApiItem)) (p1 : (List ApiItem)) (A_p0 : Option Addr) (n_p0 c_p0 : Nat) (A_p1 : Option Addr) (n_p1 c_p1 : Nat) (hr_p0 : RdE w0 5 encApiItem A_p0 p0) (hz_p0 : SW A_p0 n_p0 c_p0 (List.length p0)) (hr_p1 : RdE w0 5 encApiItem A_p1 p1) (hz_p1 : SW A_p1 n_p1 c_p1 (List.length p1)) (r : Bool) (hr : m_slices_Equal N p0 p1 = some r) :
  Ret Tryz.prog 55 [.slice A_p0 n_p0 c_p0, .slice A_p1 n_p1 c_p1] w0 (fun (r : Bool) (_u : Unit) => .bool r) (fun (_r : Bool) (_u : Unit) => []) r := by
 refine calls_v (n := 26) r hr Tryz.func55 ?_
 unfold m_slices_Equal
 refine sr ?_
 refine la 1 ((4, .bool false) :: _) rfl ?_
 refine nn ?_
 refine cm_seq ?_
 refine sr ?_
 refine la 1 ((6, .slice _ _ _) :: _) rfl ?_
 refine v_ 7 (fun _ _ => op_lenN rfl (by kernel_rfl) hz_p0.2.2) ?_
 refine la 1 ((8, .slice _ _ _) :: _) rfl ?_
 refine v_ 9 (fun _ _ => op_lenN rfl (by kernel_rfl) hz_p1.2.2) ?_
 refine la 1 ((10, .bool _) :: _) rfl ?_
 refine nn ?_
 refine cm_cond (by kernel_rfl) rfl (fun h5 => ?_) (fun h5 => ?_)
 ·refine sr ?_
  refine la 1 ((4, .bool false) :: _) rfl ?_
  refine nn ?_
  refine cm_ret ?_
  refine xm_thenR ?_
  exact xm_retT rfl (by kernel_rfl) (show _ = Value.bool false from rfl) fun w1 c1 => ⟨(), rfl, hsub [] (by kernel_rfl) rfl w1 c1⟩
 ·refine sk ?_
  refine cm_join (σ := Unit) (ξ := Unit) (fun s27 u28 => []) (fun s27 u28 => []) ?_ ?_
  ·refine sr ?_
   refine la 1 ((11, .slice _ _ _) :: _) rfl ?_
   refine v_ 12 (fun _ _ => op_lenN rfl (by kernel_rfl) hz_p0.2.2) ?_
   refine la 1 ((13, .int .i64 _) :: _) rfl ?_
   refine nn ?_
   refine cm_block ?_
   refine cm_loop (σ := Int) (ξ := Unit) (fun s43 u44 => [(0, .slice A_p0 n_p0 c_p0), (1, .slice A_p1 n_p1 c_p1), (12, .int .i64 (List.length p0 : Int)), (13, .int .i64 s43)]) (fun s43 u44 => []) () ?_ ?_ ?_
   ·exact sq
   ·exact sh []
   intro s43 u44
   refine sr ?_
   refine la 1 ((14, .bool _) :: _) rfl ?_
   refine nn ?_
   refine cm_seq ?_
   refine cm_cond (by kernel_rfl) rfl (fun h45 => ?_) (fun h45 => ?_)
   ·refine sk ?_
    refine cm_seq ?_
    refine cm_block ?_
    refine sr ?_
    refine la 2 ((5, .int .i64 _) :: (15, .int .i64 _) :: _) rfl ?_
    refine nn ?_
    refine cm_seq ?_
    refine cm_ck (fun h46 => ?_)
    refine cm_ck (fun h47 => ?_)
    refine cm_drawn [(24, .bool (decide ((ix p0 s43) ≠ (ix p1 s43))))] (by kernel_rfl) (by kernel_rfl) ?_ ?_
    ·refine qa 2 ((17, .int .i64 _) :: (16, .slice _ _ _) :: _) rfl ?_
     refine q_ 18 (fun _ c1 => oI 5 rfl rfl ((hr_p0.old c1).addr h46.1 h46.2) hz_p0.2.2 h46) ?_
     refine q_ 19 (fun _ c1 => oR [.int .i64 ((ix p0 s43).Kind), .int .i64 ((ix p0 s43).Ref), .int .i64 ((ix p0 s43).Count), .int .i64 ((ix p0 s43).Price), .int .i64 ((ix p0 s43).Amount)] ((hr_p0.old c1).row h46.1 h46.2)) ?_
     refine qa 2 ((21, .int .i64 _) :: (20, .slice _ _ _) :: _) rfl ?_
     refine q_ 22 (fun _ c1 => oI 5 rfl rfl ((hr_p1.old c1).addr h47.1 h47.2) hz_p1.2.2 h47) ?_
     refine q_ 23 (fun _ c1 => oR [.int .i64 ((ix p1 s43).Kind), .int .i64 ((ix p1 s43).Ref), .int .i64 ((ix p1 s43).Count), .int .i64 ((ix p1 s43).Price), .int .i64 ((ix p1 s43).Amount)] ((hr_p1.old c1).row h47.1 h47.2)) ?_
     refine q_ 24 (fun _ _ => op_neApiItem (ix p0 s43) (ix p1 s43) rfl rfl) ?_
     exact lq 9
    refine xm_next ?_
    refine cm_cond (by kernel_rfl) rfl (fun h48 => ?_) (fun h48 => ?_)
    ·refine sr ?_
     refine la 1 ((4, .bool false) :: _) rfl ?_
     refine nn ?_
     refine cm_ret ?_
     refine xm_inR ?_
     refine xm_thenR ?_
     refine xm_lret ?_
     refine xm_inR ?_
     refine xm_lret ?_
     exact xm_retT rfl (by kernel_rfl) (show _ = Value.bool false from rfl) fun w1 c1 => ⟨(), rfl, hsub [] (by kernel_rfl) rfl w1 c1⟩
    ·refine cm_skip ?_
     refine xm_inN ?_
     refine xm_next ?_
     refine cm_region ?_
     refine lm_ck (fun h49 => ?_)
     refine v_ 25 (fun _ _ => op_add rfl rfl h49) ?_
     refine la 1 ((13, .int .i64 _) :: _) rfl ?_
     refine lm_nil ?_
     exact xm_lnext () sq (sh [])
   ·refine cm_exit ?_
    refine xm_thenE ?_
    refine xm_lexit ?_
    refine xm_here ?_
    exact xm_lnext () sub_nil (sh [])
  intro s27 u28
  refine sr ?_
  refine la 1 ((4, .bool true) :: _) rfl ?_
  refine nn ?_
  refine cm_ret ?_
  exact xm_retT rfl (by kernel_rfl) (show _ = Value.bool true from rfl) fun w1 c1 => ⟨(), rfl, hsub [] (by kernel_rfl) rfl w1 c1⟩
/-- bill.Right$1 -/
def m_bill_Right_1 (_N : Nat) (p0 : ApiItem) : Option (Bool) :=
 some ((decide (p0.Kind ≠ 4)))
set_option maxRecDepth 20000 in
theorem m_bill_Right_1_ok (N : Nat) (w0 : World) (p0 : ApiItem)   (r : Bool) (hr : m_bill_Right_1 N p0 = some r) :
  Ret Tryz.prog 56 [.agg #[.int .i64 p0.Kind, .int .i64 p0.Ref, .int .i64 p0.Count, .int .i64 p0.Price, .int .i64 p0.Amount]] w0 (fun (r : Bool) (_u : Unit) => .bool r) (fun (_r : Bool) (_u : Unit) => []) r := by
 refine calls_v (n := 6) r hr Tryz.func56 ?_
 unfold m_bill_Right_1
 refine sr ?_
 refine lm_box 1 [.int .i64 _, .int .i64 _, .int .i64 _, .int .i64 _, .int .i64 _] (by kernel_rfl) rfl ?_
 intro b5
 refine la 1 ((2, .bool false) :: _) rfl ?_
 refine nn ?_
 refine sr ?_
 refine v_ 3 (fun _ _ => oF 0 0 rfl) ?_
 refine v_ 4 (fun _ c1 => oL (c1.cell 0 (u := .int .i64 _) rfl rfl)) ?_
 refine la 2 ((2, .bool _) :: (5, .bool _) :: _) rfl ?_
 refine nn ?_
 refine cm_ret ?_
 exact xm_retT rfl (by kernel_rfl) (show _ = Value.bool _ from rfl) fun w1 c1 => ⟨(), rfl, hsub [] (by kernel_rfl) rfl w1 c1⟩
/-- slices.IndexFunc -/
def m_slices_IndexFunc_bill_Right_1 (N : Nat) (p0 : (List ApiItem)) : Option (Int) :=
 (andThen
  (loopM (fun (s47 : Int) =>
   (if s47 < (List.length p0 : Int) then
    ck ((0 : Int) ≤ s47 ∧ s47 < (List.length p0 : Int)) (
     Option.bind (m_bill_Right_1 N (ix p0 s47)) fun r51 => (if r51 = true then
      some (.done (.done (s47)))
     else
      ck (I64 (s47 + (1 : Int))) (
       some (.next (s47 + (1 : Int))))))
   else
    some (.done (.next ())))) N (0 : Int))
 fun (_s29 : Unit) =>
  some ((-1 : Int)))
set_option maxRecDepth 20000 in
theorem m_slices_IndexFunc_bill_Right_1_ok (N : Nat) (w0 : World) (p0 : (List ApiItem)) (A_p0 : Option Addr) (n_p0 c_p0 : Nat) (hr_p0 : RdE w0 5 encApiItem A_p0 p0) (hz_p0 : SW A_p0 n_p0 c_p0 (List.length p0)) (r : Int) (hr : m_slices_IndexFunc_bill_Right_1 N p0 = some r) :
  Ret Tryz.prog 89 [.slice A_p0 n_p0 c_p0, .func (.func 56) #[] #[]] w0 (fun (r : Int) (_u : Unit) => .int .i64 r) (fun (_r : Int) (_u : Unit) => []) r := by
 refine calls_v (n := 19) r hr Tryz.func89 ?_
 unfold m_slices_IndexFunc_bill_Right_1
 refine sr ?_
 refine la 1 ((4, .int .i64 _) :: _) rfl ?_
 refine nn ?_
 refine cm_join (σ := Unit) (ξ := Unit) (fun s29 u30 => []) (fun s29 u30 => []) ?_ ?_
 ·refine sr ?_
  refine la 1 ((6, .slice _ _ _) :: _) rfl ?_
  refine v_ 7 (fun _ _ => op_lenN rfl (by kernel_rfl) hz_p0.2.2) ?_
  refine la 1 ((8, .int .i64 _) :: _) rfl ?_
  refine nn ?_
  refine cm_block ?_
  refine cm_loop (σ := Int) (ξ := Unit) (fun s47 u48 => [(0, .slice A_p0 n_p0 c_p0), (1, .func (.func 56) #[] #[]), (7, .int .i64 (List.length p0 : Int)), (8, .int .i64 s47)]) (fun s47 u48 => []) () ?_ ?_ ?_
  ·exact sq
  ·exact sh []
  intro s47 u48
  refine sr ?_
  refine la 1 ((9, .bool _) :: _) rfl ?_
  refine nn ?_
  refine cm_seq ?_
  refine cm_cond (by kernel_rfl) rfl (fun h49 => ?_) (fun h49 => ?_)
  ·refine sk ?_
   refine cm_seq ?_
   refine cm_block ?_
   refine sr ?_
   refine la 2 ((5, .int .i64 _) :: (10, .int .i64 _) :: _) rfl ?_
   refine nn ?_
   refine sr ?_
   refine la 3 ((13, .int .i64 _) :: (12, .slice _ _ _) :: (11, .func _ _ _) :: _) rfl ?_
   refine lm_ck (fun h50 => ?_)
   refine v_ 14 (fun _ c1 => oI 5 rfl rfl ((hr_p0.old c1).addr h50.1 h50.2) hz_p0.2.2 h50) ?_
   refine v_ 15 (fun _ c1 => oR [.int .i64 ((ix p0 s47).Kind), .int .i64 ((ix p0 s47).Ref), .int .i64 ((ix p0 s47).Count), .int .i64 ((ix p0 s47).Price), .int .i64 ((ix p0 s47).Amount)] ((hr_p0.old c1).row h50.1 h50.2)) ?_
   refine lm_call 16 (V := (fun (r : Bool) (_u : Unit) => .bool r)) (HR := (fun (_r : Bool) (_u : Unit) => [])) (by kernel_rfl) (fun w1 => op_callv rfl (by kernel_rfl)) (fun r1 hr1 w1 c1 => m_bill_Right_1_ok N w1 (ix p0 s47)  r1 hr1) ?_
   intro r51 u52
   refine nn ?_
   refine cm_condB (by kernel_rfl) rfl (fun h53 => ?_) (fun h53 => ?_)
   ·refine sr ?_
    refine la 2 ((4, .int .i64 _) :: (17, .int .i64 _) :: _) rfl ?_
    refine nn ?_
    refine cm_ret ?_
    refine xm_inR ?_
    refine xm_thenR ?_
    refine xm_lret ?_
    refine xm_inR ?_
    refine xm_lret ?_
    exact xm_retT rfl (by kernel_rfl) (show _ = Value.int .i64 _ from rfl) fun w1 c1 => ⟨(), rfl, hsub [] (by kernel_rfl) rfl w1 c1⟩
   ·refine cm_skip ?_
    refine xm_inN ?_
    refine xm_next ?_
    refine cm_region ?_
    refine lm_ck (fun h54 => ?_)
    refine v_ 18 (fun _ _ => op_add rfl rfl h54) ?_
    refine la 1 ((8, .int .i64 _) :: _) rfl ?_
    refine lm_nil ?_
    exact xm_lnext () sq (sh [])
  ·refine cm_exit ?_
   refine xm_thenE ?_
   refine xm_lexit ?_
   refine xm_here ?_
   exact xm_lnext () sub_nil (sh [])
 intro s29 u30
 refine sr ?_
 refine la 1 ((4, .int .i64 _) :: _) rfl ?_
 refine nn ?_
 refine cm_ret ?_
 exact xm_retT rfl (by kernel_rfl) (show _ = Value.int .i64 _ from rfl) fun w1 c1 => ⟨(), rfl, hsub [] (by kernel_rfl) rfl w1 c1⟩
/-- slices.ContainsFunc -/
def m_slices_ContainsFunc_bill_Right_1 (N : Nat) (p0 : (List ApiItem)) : Option (Bool) :=
 Option.bind (m_slices_IndexFunc_bill_Right_1 N p0) fun r5 => some ((decide (0 ≤ r5)))
set_option maxRecDepth 20000 in
theorem m_slices_ContainsFunc_bill_Right_1_ok (N : Nat) (w0 : World) (p0 : (List ApiItem)) (A_p0 : Option Addr) (n_p0 c_p0 : Nat) (hr_p0 : RdE w0 5 encApiItem A_p0 p0) (hz_p0 : SW A_p0 n_p0 c_p0 (List.length p0)) (r : Bool) (hr : m_slices_ContainsFunc_bill_Right_1 N p0 = some r) :
  Ret Tryz.prog 49 [.slice A_p0 n_p0 c_p0, .func (.func 56) #[] #[]] w0 (fun (r : Bool) (_u : Unit) => .bool r) (fun (_r : Bool) (_u : Unit) => []) r := by
 refine calls_v (n := 9) r hr Tryz.func49 ?_
 unfold m_slices_ContainsFunc_bill_Right_1
 refine sr ?_
 refine la 1 ((4, .bool false) :: _) rfl ?_
 refine nn ?_
 refine sr ?_
 refine la 2 ((6, .func _ _ _) :: (5, .slice _ _ _) :: _) rfl ?_
 refine lm_call 7 (V := (fun (r : Int) (_u : Unit) => .int .i64 r)) (HR := (fun (_r : Int) (_u : Unit) => [])) (by kernel_rfl) (fun w1 => op_call (by kernel_rfl)) (fun r1 hr1 w1 c1 => m_slices_IndexFunc_bill_Right_1_ok N w1 p0 A_p0 n_p0 c_p0 (hr_p0.old c1) hz_p0 r1 hr1) ?_
 intro r5 u6
 refine la 2 ((4, .bool _) :: (8, .bool _) :: _) rfl ?_
 refine nn ?_
 refine cm_ret ?_
 exact xm_retT rfl (by kernel_rfl) (show _ = Value.bool _ from rfl) fun w1 c1 => ⟨(), rfl, hsub [] (by kernel_rfl) rfl w1 c1⟩
/-- bill.credits -/
def m_bill_credits (N : Nat) (p0 : (List ApiItem)) (p1 : Int) : Option (Int) :=
 (andThen
  (ck ((0 : Int) ≤ p1 ∧ p1 ≤ (List.length p0 : Int)) (
   (loopM (fun (s79 : Int) =>
    (if s79 < (List.length (List.drop (Int.toNat p1) p0) : Int) then
     ck ((0 : Int) ≤ s79 ∧ s79 < (List.length (List.drop (Int.toNat p1) p0) : Int)) (
      (if ((((decide ((ix (List.drop (Int.toNat p1) p0) s79).Count ≠ 1)) || (decide ((ix (List.drop (Int.toNat p1) p0) s79).Amount < -1000000000000))) || (decide (-1 < (ix (List.drop (Int.toNat p1) p0) s79).Amount))) || (decide ((ix (List.drop (Int.toNat p1) p0) s79).Price ≠ (ix (List.drop (Int.toNat p1) p0) s79).Amount))) = true then
       some (.done (.done ((3 : Int))))
      else
       Option.bind (m_bill_account N p0 ((ix (List.drop (Int.toNat p1) p0) s79).Ref)) fun r88 => (if ((decide ((ix (List.drop (Int.toNat p1) p0) s79).Ref ≠ 0)) && (!r88.2.2)) = true then
        some (.done (.done ((7 : Int))))
       else
        ck (I64 (s79 + (1 : Int))) (
         some (.next (s79 + (1 : Int)))))))
    else
     some (.done (.next ())))) N (0 : Int))))
 fun (_s48 : Unit) =>
  (andThen
   (ck ((0 : Int) ≤ p1 ∧ p1 ≤ (List.length p0 : Int)) (
    (loopM (fun (s147 : Int) =>
     (if s147 < (List.length (List.drop (Int.toNat p1) p0) : Int) then
      ck ((0 : Int) ≤ s147 ∧ s147 < (List.length (List.drop (Int.toNat p1) p0) : Int)) (
       Option.bind (m_bill_account N p0 ((ix (List.drop (Int.toNat p1) p0) s147).Ref)) fun r152 => (if ((decide ((ix (List.drop (Int.toNat p1) p0) s147).Ref ≠ 0)) && (decide (r152.1 < r152.2.1))) = true then
        some (.done (.done ((1 : Int))))
       else
        ck (I64 (s147 + (1 : Int))) (
         some (.next (s147 + (1 : Int))))))
     else
      some (.done (.next ())))) N (0 : Int))))
  fun (_s124 : Unit) =>
   some ((0 : Int))))
set_option maxHeartbeats 2000000 in
set_option maxRecDepth 20000 in
theorem m_bill_credits_ok (N : Nat) (w0 : World) (p0 : (List ApiItem)) (p1 : Int) (A_p0 : Option Addr) (n_p0 c_p0 : Nat) (hr_p0 : RdE w0 5 encApiItem A_p0 p0) (hz_p0 : SW A_p0 n_p0 c_p0 (List.length p0)) (r : Int) (hr : m_bill_credits N p0 p1 = some r) :
  Ret Tryz.prog 57 [.slice A_p0 n_p0 c_p0, .int .i64 p1] w0 (fun (r : Int) (_u : Unit) => .int .i64 r) (fun (_r : Int) (_u : Unit) => []) r := by
 refine calls_v (n := 84) r hr Tryz.func57 ?_
 unfold m_bill_credits
 refine sr ?_
 refine la 1 ((4, .int .i64 _) :: _) rfl ?_
 refine nn ?_
 refine cm_join (σ := Unit) (ξ := Unit) (fun s48 u49 => [(0, .slice A_p0 n_p0 c_p0), (1, .int .i64 p1)]) (fun s48 u49 => []) ?_ ?_
 ·refine sr ?_
  refine la 2 ((16, .int .i64 _) :: (15, .slice _ _ _) :: _) rfl ?_
  refine lm_ck (fun h50 => ?_)
  refine v_ 17 (fun _ _ => op_sliceFrom (l := p0) 5 rfl rfl (by kernel_rfl) (by kernel_rfl) hz_p0 h50.1 h50.2) ?_
  refine v_ 18 (fun _ _ => op_lenN rfl (by kernel_rfl) (hz_p0.drop (sz := 5) h50.1 h50.2).2.2) ?_
  refine la 1 ((19, .int .i64 _) :: _) rfl ?_
  refine nn ?_
  refine cm_block ?_
  refine cm_loop (σ := Int) (ξ := Unit) (fun s79 u80 => [(0, .slice A_p0 n_p0 c_p0), (1, .int .i64 p1), (17, .slice (adv A_p0 c_p0 p1 5) (n_p0 - Int.toNat p1) (c_p0 - Int.toNat p1)), (18, .int .i64 (List.length (List.drop (Int.toNat p1) p0) : Int)), (19, .int .i64 s79)]) (fun s79 u80 => []) () ?_ ?_ ?_
  ·exact sq
  ·exact sh []
  intro s79 u80
  refine sr ?_
  refine la 1 ((20, .bool _) :: _) rfl ?_
  refine nn ?_
  refine cm_seq ?_
  refine cm_cond (by kernel_rfl) rfl (fun h81 => ?_) (fun h81 => ?_)
  ·refine sk ?_
   refine cm_seq ?_
   refine cm_block ?_
   refine sr ?_
   refine lm_ck (fun h82 => ?_)
   refine v_ 21 (fun _ c1 => oI 5 rfl rfl (((hr_p0.old c1).drop hz_p0 h50.1 h50.2).addr h82.1 h82.2) (hz_p0.drop (sz := 5) h50.1 h50.2).2.2 h82) ?_
   refine v_ 22 (fun _ c1 => oR [.int .i64 ((ix (List.drop (Int.toNat p1) p0) s79).Kind), .int .i64 ((ix (List.drop (Int.toNat p1) p0) s79).Ref), .int .i64 ((ix (List.drop (Int.toNat p1) p0) s79).Count), .int .i64 ((ix (List.drop (Int.toNat p1) p0) s79).Price), .int .i64 ((ix (List.drop (Int.toNat p1) p0) s79).Amount)] (((hr_p0.old c1).drop hz_p0 h50.1 h50.2).row h82.1 h82.2)) ?_
   refine lm_alloc 6 [.int .i64 0, .int .i64 0, .int .i64 0, .int .i64 0, .int .i64 0] (v := .agg #[.int .i64 0, .int .i64 0, .int .i64 0, .int .i64 0, .int .i64 0]) (by kernel_rfl) (by kernel_rfl) rfl ?_
   intro b83
   refine lm_storeA 0 [.int .i64 _, .int .i64 _, .int .i64 _, .int .i64 _, .int .i64 _] [_, _, _, _, _] (H' := [blkE _ _ [_, _, _, _, _]]) (by kernel_rfl) rfl rfl (by kernel_rfl) rfl rfl (by kernel_rfl) rfl rfl ?_
   refine nn ?_
   refine cm_seq ?_
   refine cm_seq ?_
   refine cm_cutE [(42, .bool ((((decide ((ix (List.drop (Int.toNat p1) p0) s79).Count ≠ 1)) || (decide ((ix (List.drop (Int.toNat p1) p0) s79).Amount < -1000000000000))) || (decide (-1 < (ix (List.drop (Int.toNat p1) p0) s79).Amount))) || (decide ((ix (List.drop (Int.toNat p1) p0) s79).Price ≠ (ix (List.drop (Int.toNat p1) p0) s79).Amount))))] ?_ ?_
   ·refine q_ 23 (fun _ _ => oF 2 2 rfl) ?_
    refine q_ 24 (fun _ c1 => oL (c1.cell 0 (u := .int .i64 _) rfl rfl)) ?_
    refine qd 25 (fun _ _ => op_neq rfl rfl) (fun h84 => ?_) (fun h84 => ?_)
    ·refine qa 17 ((42, .bool true) :: (41, undef) :: (40, undef) :: (39, undef) :: (38, undef) :: (37, undef) :: (36, .bool true) :: (35, .bool true) :: (34, undef) :: (33, undef) :: (32, undef) :: (31, .bool true) :: (30, .bool true) :: (29, undef) :: (28, undef) :: (27, undef) :: (26, .bool true) :: _) rfl ?_
     exact leaf_q (sub_out 20 _ rfl (by kernel_rfl) ⟨(congrArg Value.bool (by rw [decide_eq_true h84] <;> rfl)), trivial⟩)
    ·refine qa 1 ((26, .bool false) :: _) rfl ?_
     refine q_ 27 (fun _ _ => oF 4 4 rfl) ?_
     refine q_ 28 (fun _ c1 => oL (c1.cell 0 (u := .int .i64 _) rfl rfl)) ?_
     refine qd 29 (fun _ _ => op_lss rfl rfl) (fun h85 => ?_) (fun h85 => ?_)
     ·refine qa 13 ((42, .bool true) :: (41, undef) :: (40, undef) :: (39, undef) :: (38, undef) :: (37, undef) :: (36, .bool true) :: (35, .bool true) :: (34, undef) :: (33, undef) :: (32, undef) :: (31, .bool true) :: (30, .bool true) :: _) rfl ?_
      exact leaf_q (sub_out 20 _ rfl (by kernel_rfl) ⟨(congrArg Value.bool (by rw [decide_eq_false h84, decide_eq_true h85] <;> rfl)), trivial⟩)
     ·refine qa 2 ((31, .bool false) :: (30, .bool false) :: _) rfl ?_
      refine q_ 32 (fun _ _ => oF 4 4 rfl) ?_
      refine q_ 33 (fun _ c1 => oL (c1.cell 0 (u := .int .i64 _) rfl rfl)) ?_
      refine qd 34 (fun _ _ => op_gtr rfl rfl) (fun h86 => ?_) (fun h86 => ?_)
      ·refine qa 8 ((42, .bool true) :: (41, undef) :: (40, undef) :: (39, undef) :: (38, undef) :: (37, undef) :: (36, .bool true) :: (35, .bool true) :: _) rfl ?_
       exact leaf_q (sub_out 20 _ rfl (by kernel_rfl) ⟨(congrArg Value.bool (by rw [decide_eq_false h84, decide_eq_false h85, decide_eq_true h86] <;> rfl)), trivial⟩)
      ·refine qa 2 ((36, .bool false) :: (35, .bool false) :: _) rfl ?_
       refine q_ 37 (fun _ _ => oF 3 3 rfl) ?_
       refine q_ 38 (fun _ c1 => oL (c1.cell 0 (u := .int .i64 _) rfl rfl)) ?_
       refine q_ 39 (fun _ _ => oF 4 4 rfl) ?_
       refine q_ 40 (fun _ c1 => oL (c1.cell 0 (u := .int .i64 _) rfl rfl)) ?_
       refine qa 2 ((42, .bool _) :: (41, .bool _) :: _) rfl ?_
       exact leaf_q (sub_out 20 _ rfl (by kernel_rfl) ⟨(congrArg Value.bool (by rw [decide_eq_false h84, decide_eq_false h85, decide_eq_false h86] <;> rfl)), trivial⟩)
   refine xm_next ?_
   refine cm_condB (by kernel_rfl) rfl (fun h87 => ?_) (fun h87 => ?_)
   ·refine sr ?_
    refine la 1 ((4, .int .i64 _) :: _) rfl ?_
    refine nn ?_
    refine cm_ret ?_
    refine xm_thenR ?_
    refine xm_inR ?_
    refine xm_thenR ?_
    refine xm_lret ?_
    refine xm_inR ?_
    refine xm_lret ?_
    exact xm_retT rfl (by kernel_rfl) (show _ = Value.int .i64 _ from rfl) fun w1 c1 => ⟨(), rfl, hsub [] (by kernel_rfl) rfl w1 c1⟩
   ·refine sk ?_
    refine sr ?_
    refine la 1 ((44, .slice _ _ _) :: _) rfl ?_
    refine v_ 45 (fun _ _ => oF 1 1 rfl) ?_
    refine v_ 46 (fun _ c1 => oL (c1.cell 0 (u := .int .i64 _) rfl rfl)) ?_
    refine lm_call 47 (V := (fun (r : Int × Int × Bool) (_u : Unit) => .tuple #[.int .i64 r.1, .int .i64 r.2.1, .bool r.2.2])) (HR := (fun (_r : Int × Int × Bool) (_u : Unit) => [])) (by kernel_rfl) (fun w1 => op_call (by kernel_rfl)) (fun r1 hr1 w1 c1 => m_bill_account_ok N w1 p0 ((ix (List.drop (Int.toNat p1) p0) s79).Ref) A_p0 n_p0 c_p0 (hr_p0.old c1) hz_p0 r1 hr1) ?_
    intro r88 u89
    refine la 7 ((9, .bool _) :: (8, .int .i64 _) :: (7, .int .i64 _) :: (50, .bool _) :: (49, .int .i64 _) :: (48, .int .i64 _) :: (43, .tuple _) :: _) rfl ?_
    refine nn ?_
    refine cm_seq ?_
    refine cm_cutE [(57, .bool ((decide ((ix (List.drop (Int.toNat p1) p0) s79).Ref ≠ 0)) && (!r88.2.2)))] ?_ ?_
    ·refine q_ 51 (fun _ _ => oF 1 1 rfl) ?_
     refine q_ 52 (fun _ c1 => oL (c1.cell 0 (u := .int .i64 _) rfl rfl)) ?_
     refine qd 53 (fun _ _ => op_neq rfl rfl) (fun h90 => ?_) (fun h90 => ?_)
     ·refine qa 4 ((57, .bool _) :: (56, .bool _) :: (55, .bool _) :: (54, .bool true) :: _) rfl ?_
      exact leaf_q (sub_out 7 _ rfl (by kernel_rfl) ⟨(congrArg Value.bool (by rw [decide_eq_true h90] <;> rfl)), trivial⟩)
     ·refine qa 4 ((57, .bool false) :: (56, undef) :: (55, undef) :: (54, .bool false) :: _) rfl ?_
      exact leaf_q (sub_out 7 _ rfl (by kernel_rfl) ⟨(congrArg Value.bool (by rw [decide_eq_false h90] <;> rfl)), trivial⟩)
    refine xm_next ?_
    refine cm_condB (by kernel_rfl) rfl (fun h91 => ?_) (fun h91 => ?_)
    ·refine sr ?_
     refine la 1 ((4, .int .i64 _) :: _) rfl ?_
     refine nn ?_
     refine cm_ret ?_
     refine xm_inR ?_
     refine xm_thenR ?_
     refine xm_lret ?_
     refine xm_inR ?_
     refine xm_lret ?_
     exact xm_retT rfl (by kernel_rfl) (show _ = Value.int .i64 _ from rfl) fun w1 c1 => ⟨(), rfl, hsub [] (by kernel_rfl) rfl w1 c1⟩
    ·refine cm_skip ?_
     refine xm_inN ?_
     refine xm_next ?_
     refine cm_region ?_
     refine lm_ck (fun h92 => ?_)
     refine v_ 58 (fun _ _ => op_add rfl rfl h92) ?_
     refine la 1 ((19, .int .i64 _) :: _) rfl ?_
     refine lm_nil ?_
     exact xm_lnext () sq (sh [])
  ·refine cm_exit ?_
   refine xm_thenE ?_
   refine xm_lexit ?_
   refine xm_here ?_
   exact xm_lnext () sq (sh [])
 intro s48 u49
 refine cm_join (σ := Unit) (ξ := Unit) (fun s124 u125 => []) (fun s124 u125 => []) ?_ ?_
 ·refine sr ?_
  refine la 2 ((60, .int .i64 _) :: (59, .slice _ _ _) :: _) rfl ?_
  refine lm_ck (fun h126 => ?_)
  refine v_ 61 (fun _ _ => op_sliceFrom (l := p0) 5 rfl rfl (by kernel_rfl) (by kernel_rfl) hz_p0 h126.1 h126.2) ?_
  refine v_ 62 (fun _ _ => op_lenN rfl (by kernel_rfl) (hz_p0.drop (sz := 5) h126.1 h126.2).2.2) ?_
  refine la 1 ((63, .int .i64 _) :: _) rfl ?_
  refine nn ?_
  refine cm_block ?_
  refine cm_loop (σ := Int) (ξ := Unit) (fun s147 u148 => [(0, .slice A_p0 n_p0 c_p0), (61, .slice (adv A_p0 c_p0 p1 5) (n_p0 - Int.toNat p1) (c_p0 - Int.toNat p1)), (62, .int .i64 (List.length (List.drop (Int.toNat p1) p0) : Int)), (63, .int .i64 s147)]) (fun s147 u148 => []) () ?_ ?_ ?_
  ·exact sq
  ·exact sh []
  intro s147 u148
  refine sr ?_
  refine la 1 ((64, .bool _) :: _) rfl ?_
  refine nn ?_
  refine cm_seq ?_
  refine cm_cond (by kernel_rfl) rfl (fun h149 => ?_) (fun h149 => ?_)
  ·refine sk ?_
   refine cm_seq ?_
   refine cm_block ?_
   refine sr ?_
   refine lm_ck (fun h150 => ?_)
   refine v_ 65 (fun _ c1 => oI 5 rfl rfl (((hr_p0.old c1).drop hz_p0 h126.1 h126.2).addr h150.1 h150.2) (hz_p0.drop (sz := 5) h126.1 h126.2).2.2 h150) ?_
   refine v_ 66 (fun _ c1 => oR [.int .i64 ((ix (List.drop (Int.toNat p1) p0) s147).Kind), .int .i64 ((ix (List.drop (Int.toNat p1) p0) s147).Ref), .int .i64 ((ix (List.drop (Int.toNat p1) p0) s147).Count), .int .i64 ((ix (List.drop (Int.toNat p1) p0) s147).Price), .int .i64 ((ix (List.drop (Int.toNat p1) p0) s147).Amount)] (((hr_p0.old c1).drop hz_p0 h126.1 h126.2).row h150.1 h150.2)) ?_
   refine lm_alloc 11 [.int .i64 0, .int .i64 0, .int .i64 0, .int .i64 0, .int .i64 0] (v := .agg #[.int .i64 0, .int .i64 0, .int .i64 0, .int .i64 0, .int .i64 0]) (by kernel_rfl) (by kernel_rfl) rfl ?_
   intro b151
   refine lm_storeA 0 [.int .i64 _, .int .i64 _, .int .i64 _, .int .i64 _, .int .i64 _] [_, _, _, _, _] (H' := [blkE _ _ [_, _, _, _, _]]) (by kernel_rfl) rfl rfl (by kernel_rfl) rfl rfl (by kernel_rfl) rfl rfl ?_
   refine nn ?_
   refine sr ?_
   refine la 1 ((68, .slice _ _ _) :: _) rfl ?_
   refine v_ 69 (fun _ _ => oF 1 1 rfl) ?_
   refine v_ 70 (fun _ c1 => oL (c1.cell 0 (u := .int .i64 _) rfl rfl)) ?_
   refine lm_call 71 (V := (fun (r : Int × Int × Bool) (_u : Unit) => .tuple #[.int .i64 r.1, .int .i64 r.2.1, .bool r.2.2])) (HR := (fun (_r : Int × Int × Bool) (_u : Unit) => [])) (by kernel_rfl) (fun w1 => op_call (by kernel_rfl)) (fun r1 hr1 w1 c1 => m_bill_account_ok N w1 p0 ((ix (List.drop (Int.toNat p1) p0) s147).Ref) A_p0 n_p0 c_p0 (hr_p0.old c1) hz_p0 r1 hr1) ?_
   intro r152 u153
   refine la 7 ((14, .bool _) :: (13, .int .i64 _) :: (12, .int .i64 _) :: (74, .bool _) :: (73, .int .i64 _) :: (72, .int .i64 _) :: (67, .tuple _) :: _) rfl ?_
   refine nn ?_
   refine cm_seq ?_
   refine cm_cutE [(82, .bool ((decide ((ix (List.drop (Int.toNat p1) p0) s147).Ref ≠ 0)) && (decide (r152.1 < r152.2.1))))] ?_ ?_
   ·refine q_ 75 (fun _ _ => oF 1 1 rfl) ?_
    refine q_ 76 (fun _ c1 => oL (c1.cell 0 (u := .int .i64 _) rfl rfl)) ?_
    refine qd 77 (fun _ _ => op_neq rfl rfl) (fun h154 => ?_) (fun h154 => ?_)
    ·refine qa 5 ((82, .bool _) :: (81, .bool _) :: (80, .int .i64 _) :: (79, .int .i64 _) :: (78, .bool true) :: _) rfl ?_
     exact leaf_q (sub_out 8 _ rfl (by kernel_rfl) ⟨(congrArg Value.bool (by rw [decide_eq_true h154] <;> rfl)), trivial⟩)
    ·refine qa 5 ((82, .bool false) :: (81, undef) :: (80, undef) :: (79, undef) :: (78, .bool false) :: _) rfl ?_
     exact leaf_q (sub_out 8 _ rfl (by kernel_rfl) ⟨(congrArg Value.bool (by rw [decide_eq_false h154] <;> rfl)), trivial⟩)
   refine xm_next ?_
   refine cm_condB (by kernel_rfl) rfl (fun h155 => ?_) (fun h155 => ?_)
   ·refine sr ?_
    refine la 1 ((4, .int .i64 _) :: _) rfl ?_
    refine nn ?_
    refine cm_ret ?_
    refine xm_inR ?_
    refine xm_thenR ?_
    refine xm_lret ?_
    refine xm_inR ?_
    refine xm_lret ?_
    exact xm_retT rfl (by kernel_rfl) (show _ = Value.int .i64 _ from rfl) fun w1 c1 => ⟨(), rfl, hsub [] (by kernel_rfl) rfl w1 c1⟩
   ·refine cm_skip ?_
    refine xm_inN ?_
    refine xm_next ?_
    refine cm_region ?_
    refine lm_ck (fun h156 => ?_)
    refine v_ 83 (fun _ _ => op_add rfl rfl h156) ?_
    refine la 1 ((63, .int .i64 _) :: _) rfl ?_
    refine lm_nil ?_
    exact xm_lnext () sq (sh [])
  ·refine cm_exit ?_
   refine xm_thenE ?_
   refine xm_lexit ?_
   refine xm_here ?_
   exact xm_lnext () sub_nil (sh [])
 intro s124 u125
 refine sr ?_
 refine la 1 ((4, .int .i64 _) :: _) rfl ?_
 refine nn ?_
 refine cm_ret ?_
 exact xm_retT rfl (by kernel_rfl) (show _ = Value.int .i64 _ from rfl) fun w1 c1 => ⟨(), rfl, hsub [] (by kernel_rfl) rfl w1 c1⟩
/-- bill.Right -/
def m_bill_Right (N : Nat) (p0 : ApiAccount) (p1 : ApiBill) : Option (Int) :=
 Option.bind (m_bill_Make N p0 p1.ID p1.Household p1.When) fun r7 => (if r7.2 ≠ 0 then
  some (r7.2)
 else
  (if 512 < (List.length p1.Items : Int) then
   some ((8 : Int))
  else
   ck ((!(decide ((List.length p1.Items : Int) < (List.length r7.1.Items : Int)))) = true → (0 : Int) ≤ (List.length r7.1.Items : Int) ∧ (List.length r7.1.Items : Int) ≤ (List.length p1.Items : Int)) (
    callIf ((!(decide ((List.length p1.Items : Int) < (List.length r7.1.Items : Int)))) = true) (m_slices_Equal N (List.take (Int.toNat (List.length r7.1.Items : Int)) p1.Items) r7.1.Items) fun r13 => ck ((!((decide ((List.length p1.Items : Int) < (List.length r7.1.Items : Int))) || (!r13))) = true → (0 : Int) ≤ (List.length r7.1.Items : Int) ∧ (List.length r7.1.Items : Int) ≤ (List.length p1.Items : Int)) (
     callIf ((!((decide ((List.length p1.Items : Int) < (List.length r7.1.Items : Int))) || (!r13))) = true) (m_slices_ContainsFunc_bill_Right_1 N (List.drop (Int.toNat (List.length r7.1.Items : Int)) p1.Items)) fun r16 => (if (((decide ((List.length p1.Items : Int) < (List.length r7.1.Items : Int))) || (!r13)) || r16) = true then
      some ((34 : Int))
     else
      Option.bind (m_bill_credits N p1.Items (List.length r7.1.Items : Int)) fun r21 => (if r21 ≠ 0 then
       some (r21)
      else
       Option.bind (m_bill_sum N p1.Items) fun r24 => (if p1.Total ≠ r24 then
        some ((16 : Int))
       else
        some ((0 : Int)))))))))
set_option maxHeartbeats 2000000 in
set_option maxRecDepth 20000 in
theorem m_bill_Right_ok (N : Nat) (w0 : World) (p0 : ApiAccount) (p1 : ApiBill) (A_p01 : Option Addr) (n_p01 c_p01 : Nat) (A_p02 : Option Addr) (n_p02 c_p02 : Nat) (A_p03 : Option Addr) (n_p03 c_p03 : Nat) (A_p04 : Option Addr) (n_p04 c_p04 : Nat) (A_p05 : Option Addr) (n_p05 c_p05 : Nat) (A_p11 : Option Addr) (n_p11 c_p11 : Nat) (hr_p01 : RdE w0 2 encApiHousehold A_p01 p0.Households) (hz_p01 : SW A_p01 n_p01 c_p01 (List.length p0.Households)) (hr_p02 : RdE w0 5 encApiContainer A_p02 p0.Containers) (hz_p02 : SW A_p02 n_p02 c_p02 (List.length p0.Containers)) (hr_p03 : RdE w0 4 encApiAssign A_p03 p0.Assigns) (hz_p03 : SW A_p03 n_p03 c_p03 (List.length p0.Assigns)) (hr_p04 : RdE w0 7 encApiEmptying A_p04 p0.Emptyings) (hz_p04 : SW A_p04 n_p04 c_p04 (List.length p0.Emptyings)) (hr_p05 : RdE w0 5 encApiTariff A_p05 p0.Tariffs) (hz_p05 : SW A_p05 n_p05 c_p05 (List.length p0.Tariffs)) (hr_p11 : RdE w0 5 encApiItem A_p11 p1.Items) (hz_p11 : SW A_p11 n_p11 c_p11 (List.length p1.Items)) (r : Int) (hr : m_bill_Right N p0 p1 = some r) :
  Ret Tryz.prog 21 [.agg #[.slice A_p01 n_p01 c_p01, .slice A_p02 n_p02 c_p02, .slice A_p03 n_p03 c_p03, .slice A_p04 n_p04 c_p04, .slice A_p05 n_p05 c_p05, .int .i64 p0.Gap], .agg #[.int .i64 p1.ID, .int .i64 p1.Household, .int .i64 p1.When.From, .int .i64 p1.When.To, .slice A_p11 n_p11 c_p11, .int .i64 p1.Total]] w0 (fun (r : Int) (_u : Unit) => .int .i64 r) (fun (_r : Int) (_u : Unit) => []) r := by
 refine calls_v (n := 65) r hr Tryz.func21 ?_
 unfold m_bill_Right
 refine sr ?_
 refine lm_box 2 [.slice _ _ _, .slice _ _ _, .slice _ _ _, .slice _ _ _, .slice _ _ _, .int .i64 _] (by kernel_rfl) rfl ?_
 intro b5
 refine lm_box 3 [.int .i64 _, .int .i64 _, .int .i64 _, .int .i64 _, .slice _ _ _, .int .i64 _] (by kernel_rfl) rfl ?_
 intro b6
 refine la 1 ((4, .int .i64 _) :: _) rfl ?_
 refine nn ?_
 refine sr ?_
 refine v_ 10 (fun _ c1 => oR [.slice _ _ _, .slice _ _ _, .slice _ _ _, .slice _ _ _, .slice _ _ _, .int .i64 _] (c1.cells 1 rfl rfl)) ?_
 refine v_ 11 (fun _ _ => oF 0 0 rfl) ?_
 refine v_ 12 (fun _ c1 => oL (c1.cell 0 (u := .int .i64 _) rfl rfl)) ?_
 refine v_ 13 (fun _ _ => oF 1 1 rfl) ?_
 refine v_ 14 (fun _ c1 => oL (c1.cell 0 (u := .int .i64 _) rfl rfl)) ?_
 refine v_ 15 (fun _ _ => oF 2 2 rfl) ?_
 refine v_ 16 (fun _ c1 => oR [.int .i64 _, .int .i64 _] (c1.cells 0 rfl rfl)) ?_
 refine lm_call 17 (V := (fun (r : ApiBill × Int) (u : (Option Addr) × Nat × Nat) => .tuple #[.agg #[.int .i64 r.1.ID, .int .i64 r.1.Household, .int .i64 r.1.When.From, .int .i64 r.1.When.To, .slice u.1 u.2.1 u.2.2, .int .i64 r.1.Total], .int .i64 r.2])) (HR := (fun (r : ApiBill × Int) (u : (Option Addr) × Nat × Nat) => [ownE 66 5 encApiItem u.1 u.2.1 u.2.2 r.1.Items])) (by kernel_rfl) (fun w1 => op_call (by kernel_rfl)) (fun r1 hr1 w1 c1 => m_bill_Make_ok N w1 p0 p1.ID p1.Household p1.When A_p01 n_p01 c_p01 A_p02 n_p02 c_p02 A_p03 n_p03 c_p03 A_p04 n_p04 c_p04 A_p05 n_p05 c_p05 (hr_p01.old c1) hz_p01 (hr_p02.old c1) hz_p02 (hr_p03.old c1) hz_p03 (hr_p04.old c1) hz_p04 (hr_p05.old c1) hz_p05 r1 hr1) ?_
 intro r7 u8
 refine la 3 ((19, .int .i64 _) :: (18, .agg _) :: (9, .tuple _) :: _) rfl ?_
 refine lm_alloc 5 [.int .i64 0, .int .i64 0, .int .i64 0, .int .i64 0, .slice none 0 0, .int .i64 0] (v := .agg #[.int .i64 0, .int .i64 0, .int .i64 0, .int .i64 0, .slice none 0 0, .int .i64 0]) (by kernel_rfl) (by kernel_rfl) rfl ?_
 intro b9
 refine lm_storeA 0 [.int .i64 _, .int .i64 _, .int .i64 _, .int .i64 _, .slice _ _ _, .int .i64 _] [_, _, _, _, _, _] (H' := [blkE _ _ [_, _, _, _, _, _], _, _, _]) (by kernel_rfl) rfl rfl (by kernel_rfl) rfl rfl (by kernel_rfl) rfl rfl ?_
 refine la 1 ((6, .int .i64 _) :: _) rfl ?_
 refine nn ?_
 refine cm_seq ?_
 refine sr ?_
 refine la 2 ((21, .bool _) :: (20, .int .i64 _) :: _) rfl ?_
 refine nn ?_
 refine cm_cond (by kernel_rfl) rfl (fun h10 => ?_) (fun h10 => ?_)
 ·refine sr ?_
  refine la 2 ((4, .int .i64 _) :: (22, .int .i64 _) :: _) rfl ?_
  refine nn ?_
  refine cm_ret ?_
  refine xm_thenR ?_
  exact xm_retT rfl (by kernel_rfl) (show _ = Value.int .i64 _ from rfl) fun w1 c1 => ⟨(), rfl, hsub [] (by kernel_rfl) rfl w1 c1⟩
 ·refine sk ?_
  refine sr ?_
  refine v_ 23 (fun _ _ => oF 4 4 rfl) ?_
  refine v_ 24 (fun _ c1 => oL (c1.cell 0 (u := .slice _ _ _) rfl rfl)) ?_
  refine v_ 25 (fun _ c1 => op_lenN rfl (by kernel_rfl) (c1.ownZ 1 rfl).2.2) ?_
  refine la 1 ((7, .int .i64 _) :: _) rfl ?_
  refine nn ?_
  refine cm_seq ?_
  refine sr ?_
  refine v_ 26 (fun _ _ => oF 4 4 rfl) ?_
  refine v_ 27 (fun _ c1 => oL (c1.cell 2 (u := .slice _ _ _) rfl rfl)) ?_
  refine v_ 28 (fun _ _ => op_lenN rfl (by kernel_rfl) hz_p11.2.2) ?_
  refine la 1 ((29, .bool _) :: _) rfl ?_
  refine nn ?_
  refine cm_cond (by kernel_rfl) rfl (fun h11 => ?_) (fun h11 => ?_)
  ·refine sr ?_
   refine la 1 ((4, .int .i64 _) :: _) rfl ?_
   refine nn ?_
   refine cm_ret ?_
   refine xm_thenR ?_
   exact xm_retT rfl (by kernel_rfl) (show _ = Value.int .i64 _ from rfl) fun w1 c1 => ⟨(), rfl, hsub [] (by kernel_rfl) rfl w1 c1⟩
  ·refine sk ?_
   refine cm_seq ?_
   refine cm_seq ?_
   refine cm_ck (fun h12 => ?_)
   refine cm_callIf fun r13 h14 => ?_
   refine cm_ck (fun h15 => ?_)
   refine cm_callIf fun r16 h17 => ?_
   refine cm_drawn [(51, .bool (((decide ((List.length p1.Items : Int) < (List.length r7.1.Items : Int))) || (!r13)) || r16))] (by kernel_rfl) (by kernel_rfl) ?_ ?_
   ·refine q_ 30 (fun _ _ => oF 4 4 rfl) ?_
    refine q_ 31 (fun _ c1 => oL (c1.cell 2 (u := .slice _ _ _) rfl rfl)) ?_
    refine q_ 32 (fun _ _ => op_lenN rfl (by kernel_rfl) hz_p11.2.2) ?_
    refine qa 1 ((33, .int .i64 _) :: _) rfl ?_
    refine qd 34 (fun _ _ => op_lss rfl rfl) (fun h18 => ?_) (fun h18 => ?_)
    ·refine qa 17 ((51, .bool true) :: (50, undef) :: (49, undef) :: (48, undef) :: (47, undef) :: (46, undef) :: (45, .bool true) :: (44, .bool true) :: (43, undef) :: (42, undef) :: (41, undef) :: (40, undef) :: (39, undef) :: (38, undef) :: (37, undef) :: (36, undef) :: (35, .bool true) :: _) rfl ?_
     exact leaf_q (sub_out 22 _ rfl (by kernel_rfl) ⟨(congrArg Value.bool (by rw [decide_eq_true h18] <;> rfl)), trivial⟩)
    ·refine qa 1 ((35, .bool false) :: _) rfl ?_
     refine q_ 36 (fun _ _ => oF 4 4 rfl) ?_
     refine q_ 37 (fun _ c1 => oL (c1.cell 2 (u := .slice _ _ _) rfl rfl)) ?_
     refine qa 1 ((38, .int .i64 _) :: _) rfl ?_
     refine q_ 39 (fun _ _ => op_sliceTo2 (l := p1.Items) rfl rfl (by kernel_rfl) (by kernel_rfl) hz_p11 (h12 (by rw [decide_eq_false h18] <;> rfl)).1 (h12 (by rw [decide_eq_false h18] <;> rfl)).2) ?_
     refine q_ 40 (fun _ _ => oF 4 4 rfl) ?_
     refine q_ 41 (fun _ c1 => oL (c1.cell 0 (u := .slice _ _ _) rfl rfl)) ?_
     refine wq_callb 42 (by kernel_rfl) (fun w1 c1 => op_call (by kernel_rfl)) (fun w1 c1 => (m_slices_Equal_ok N w1 (List.take (Int.toNat (List.length r7.1.Items : Int)) p1.Items) r7.1.Items A_p11 (Int.toNat (List.length r7.1.Items : Int)) c_p11 u8.1 u8.2.1 u8.2.2 ((hr_p11.old c1).take (h12 (by rw [decide_eq_false h18] <;> rfl)).1 (h12 (by rw [decide_eq_false h18] <;> rfl)).2) (hz_p11.take (h12 (by rw [decide_eq_false h18] <;> rfl)).1 (h12 (by rw [decide_eq_false h18] <;> rfl)).2) (c1.own 1 rfl encApiItem_len) (c1.ownZ 1 rfl) r13 (h14 (by rw [decide_eq_false h18] <;> rfl))).mono (fun _ _ ⟨_, hx, hu⟩ => ⟨hx, c1.call hu⟩)) (fun h19 => ?_) (fun h19 => ?_)
     ·refine qa 3 ((45, .bool false) :: (44, .bool false) :: (43, .bool false) :: _) rfl ?_
      refine q_ 46 (fun _ _ => oF 4 4 rfl) ?_
      refine q_ 47 (fun _ c1 => oL (c1.cell 2 (u := .slice _ _ _) rfl rfl)) ?_
      refine qa 1 ((48, .int .i64 _) :: _) rfl ?_
      refine q_ 49 (fun _ _ => op_sliceFrom (l := p1.Items) 5 rfl rfl (by kernel_rfl) (by kernel_rfl) hz_p11 (h15 (by rw [decide_eq_false h18, h19] <;> rfl)).1 (h15 (by rw [decide_eq_false h18, h19] <;> rfl)).2) ?_
      refine wq_call 50 (by kernel_rfl) (fun w1 c1 => op_call (by kernel_rfl)) (fun w1 c1 => (m_slices_ContainsFunc_bill_Right_1_ok N w1 (List.drop (Int.toNat (List.length r7.1.Items : Int)) p1.Items) (adv A_p11 c_p11 (List.length r7.1.Items : Int) 5) (n_p11 - Int.toNat (List.length r7.1.Items : Int)) (c_p11 - Int.toNat (List.length r7.1.Items : Int)) ((hr_p11.old c1).drop hz_p11 (h15 (by rw [decide_eq_false h18, h19] <;> rfl)).1 (h15 (by rw [decide_eq_false h18, h19] <;> rfl)).2) (hz_p11.drop (sz := 5) (h15 (by rw [decide_eq_false h18, h19] <;> rfl)).1 (h15 (by rw [decide_eq_false h18, h19] <;> rfl)).2) r16 (h17 (by rw [decide_eq_false h18, h19] <;> rfl))).mono (fun _ _ ⟨_, hx, hu⟩ => ⟨hx, c1.call hu⟩)) ?_
      refine qa 1 ((51, .bool _) :: _) rfl ?_
      exact leaf_q (sub_out 22 _ rfl (by kernel_rfl) ⟨(congrArg Value.bool (by rw [decide_eq_false h18, h19] <;> rfl)), trivial⟩)
     ·refine qa 9 ((51, .bool true) :: (50, undef) :: (49, undef) :: (48, undef) :: (47, undef) :: (46, undef) :: (45, .bool true) :: (44, .bool true) :: (43, .bool true) :: _) rfl ?_
      exact leaf_q (sub_out 22 _ rfl (by kernel_rfl) ⟨(congrArg Value.bool (by rw [decide_eq_false h18, h19] <;> rfl)), trivial⟩)
   refine xm_next ?_
   refine cm_condB (by kernel_rfl) rfl (fun h20 => ?_) (fun h20 => ?_)
   ·refine sr ?_
    refine la 1 ((4, .int .i64 _) :: _) rfl ?_
    refine nn ?_
    refine cm_ret ?_
    refine xm_thenR ?_
    exact xm_retT rfl (by kernel_rfl) (show _ = Value.int .i64 _ from rfl) fun w1 c1 => ⟨(), rfl, hsub [] (by kernel_rfl) rfl w1 c1⟩
   ·refine sk ?_
    refine cm_seq ?_
    refine sr ?_
    refine v_ 52 (fun _ _ => oF 4 4 rfl) ?_
    refine v_ 53 (fun _ c1 => oL (c1.cell 2 (u := .slice _ _ _) rfl rfl)) ?_
    refine la 1 ((54, .int .i64 _) :: _) rfl ?_
    refine lm_call 55 (V := (fun (r : Int) (_u : Unit) => .int .i64 r)) (HR := (fun (_r : Int) (_u : Unit) => [])) (by kernel_rfl) (fun w1 => op_call (by kernel_rfl)) (fun r1 hr1 w1 c1 => m_bill_credits_ok N w1 p1.Items (List.length r7.1.Items : Int) A_p11 n_p11 c_p11 (hr_p11.old c1) hz_p11 r1 hr1) ?_
    intro r21 u22
    refine la 1 ((8, .int .i64 _) :: _) rfl ?_
    refine nn ?_
    refine sr ?_
    refine la 2 ((57, .bool _) :: (56, .int .i64 _) :: _) rfl ?_
    refine nn ?_
    refine cm_cond (by kernel_rfl) rfl (fun h23 => ?_) (fun h23 => ?_)
    ·refine sr ?_
     refine la 2 ((4, .int .i64 _) :: (58, .int .i64 _) :: _) rfl ?_
     refine nn ?_
     refine cm_ret ?_
     refine xm_thenR ?_
     exact xm_retT rfl (by kernel_rfl) (show _ = Value.int .i64 _ from rfl) fun w1 c1 => ⟨(), rfl, hsub [] (by kernel_rfl) rfl w1 c1⟩
    ·refine sk ?_
     refine cm_seq ?_
     refine cm_seq ?_
     refine cm_bind fun r24 h25 => ?_
     refine cm_drawn [(64, .bool (decide (p1.Total ≠ r24)))] (by kernel_rfl) (by kernel_rfl) ?_ ?_
     ·refine q_ 59 (fun _ _ => oF 5 5 rfl) ?_
      refine q_ 60 (fun _ c1 => oL (c1.cell 2 (u := .int .i64 _) rfl rfl)) ?_
      refine q_ 61 (fun _ _ => oF 4 4 rfl) ?_
      refine q_ 62 (fun _ c1 => oL (c1.cell 2 (u := .slice _ _ _) rfl rfl)) ?_
      refine wq_call 63 (by kernel_rfl) (fun w1 c1 => op_call (by kernel_rfl)) (fun w1 c1 => (m_bill_sum_ok N w1 p1.Items A_p11 n_p11 c_p11 (hr_p11.old c1) hz_p11 r24 h25).mono (fun _ _ ⟨_, hx, hu⟩ => ⟨hx, c1.call hu⟩)) ?_
      refine qa 1 ((64, .bool _) :: _) rfl ?_
      exact lq 6
     refine xm_next ?_
     refine cm_cond (by kernel_rfl) rfl (fun h26 => ?_) (fun h26 => ?_)
     ·refine sr ?_
      refine la 1 ((4, .int .i64 _) :: _) rfl ?_
      refine nn ?_
      refine cm_ret ?_
      refine xm_thenR ?_
      exact xm_retT rfl (by kernel_rfl) (show _ = Value.int .i64 _ from rfl) fun w1 c1 => ⟨(), rfl, hsub [] (by kernel_rfl) rfl w1 c1⟩
     ·refine sk ?_
      refine sr ?_
      refine la 1 ((4, .int .i64 _) :: _) rfl ?_
      refine nn ?_
      refine cm_ret ?_
      exact xm_retT rfl (by kernel_rfl) (show _ = Value.int .i64 _ from rfl) fun w1 c1 => ⟨(), rfl, hsub [] (by kernel_rfl) rfl w1 c1⟩
end Go.Proofs.YtpbgfdmkebnjgaaGreatDoor
