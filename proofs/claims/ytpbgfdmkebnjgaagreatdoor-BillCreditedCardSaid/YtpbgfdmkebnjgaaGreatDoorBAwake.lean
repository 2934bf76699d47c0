/- Models of functions, and that the code follows them. Written by deco.py. -/
import Derived.Test.YtpbgfdmkebnjgaaGreatDoorBP6
namespace Go.Proofs.YtpbgfdmkebnjgaaGreatDoor
open Go.RowKit
set_option linter.unusedSectionVars false
variable [JF]

theorem op_eqApiWindow {e : Env} {w : World} {d : Option Tmp} {ty : TypeId} {ps : String} {af : Array Edge} {g : Option (Nat × Bool)} {x y : Operand} (a b : ApiWindow) (hx : eev e x = .agg (encApiWindow a).toArray) (hy : eev e y = .agg (encApiWindow b).toArray) : OpV Tryz.prog e w ⟨d, .binOp .eql 34 x y 34, ty, ps, af, g⟩ (.bool (decide (a = b))) :=
 op_eqFlat (cs := encApiWindow a) (ds := encApiWindow b) hx hy Tryz.underlying34 (by kernel_rfl) (by kernel_rfl) (by kernel_rfl) (by cases a; cases b; simp [celsEq, celEq, encApiWindow])
theorem op_neApiWindow {e : Env} {w : World} {d : Option Tmp} {ty : TypeId} {ps : String} {af : Array Edge} {g : Option (Nat × Bool)} {x y : Operand} (a b : ApiWindow) (hx : eev e x = .agg (encApiWindow a).toArray) (hy : eev e y = .agg (encApiWindow b).toArray) : OpV Tryz.prog e w ⟨d, .binOp .neq 34 x y 34, ty, ps, af, g⟩ (.bool (decide (a ≠ b))) := by
 have h := op_neqFlat (t' := 34) (d := d) (ty := ty) (ps := ps) (af := af) (g := g) (w := w) (cs := encApiWindow a) (ds := encApiWindow b) (b := decide (a = b)) hx hy Tryz.underlying34 (by kernel_rfl) (by kernel_rfl) (by kernel_rfl) (by cases a; cases b; simp [celsEq, celEq, encApiWindow])
 rwa [← decide_not] at h
/-- recyclinglaw54.example -/
def m_recyclinglaw54_example (_N : Nat)  : Option (ApiAccount) :=
 some ((ApiAccount.mk ([(ApiHousehold.mk (⟨#[104]⟩ : ByteArray) 2)]) ([(ApiContainer.mk (⟨#[99]⟩ : ByteArray) 0 120 60000 0)]) ([(ApiAssign.mk 0 0 (ApiWindow.mk 0 8640000))]) ([(ApiEmptying.mk 9 0 3 2592007 (ApiSpan.mk 12300 13900) false)]) ([(ApiTariff.mk 0 10 150 20 5)]) 0))
set_option maxRecDepth 20000 in
theorem m_recyclinglaw54_example_ok (N : Nat) (w0 : World)    (r : ApiAccount) (hr : m_recyclinglaw54_example N  = some r) :
  Ret Tryz.prog 32 [] w0 (fun (r : ApiAccount) (u : (Option Addr) × Nat × Nat × (Option Addr) × Nat × Nat × (Option Addr) × Nat × Nat × (Option Addr) × Nat × Nat × (Option Addr) × Nat × Nat) => .agg #[.slice u.1 u.2.1 u.2.2.1, .slice u.2.2.2.1 u.2.2.2.2.1 u.2.2.2.2.2.1, .slice u.2.2.2.2.2.2.1 u.2.2.2.2.2.2.2.1 u.2.2.2.2.2.2.2.2.1, .slice u.2.2.2.2.2.2.2.2.2.1 u.2.2.2.2.2.2.2.2.2.2.1 u.2.2.2.2.2.2.2.2.2.2.2.1, .slice u.2.2.2.2.2.2.2.2.2.2.2.2.1 u.2.2.2.2.2.2.2.2.2.2.2.2.2.1 u.2.2.2.2.2.2.2.2.2.2.2.2.2.2, .int .i64 r.Gap]) (fun (r : ApiAccount) (u : (Option Addr) × Nat × Nat × (Option Addr) × Nat × Nat × (Option Addr) × Nat × Nat × (Option Addr) × Nat × Nat × (Option Addr) × Nat × Nat) => [ownE 75 2 encApiHousehold u.1 u.2.1 u.2.2.1 r.Households, ownE 77 5 encApiContainer u.2.2.2.1 u.2.2.2.2.1 u.2.2.2.2.2.1 r.Containers, ownE 107 4 encApiAssign u.2.2.2.2.2.2.1 u.2.2.2.2.2.2.2.1 u.2.2.2.2.2.2.2.2.1 r.Assigns, ownE 59 7 encApiEmptying u.2.2.2.2.2.2.2.2.2.1 u.2.2.2.2.2.2.2.2.2.2.1 u.2.2.2.2.2.2.2.2.2.2.2.1 r.Emptyings, ownE 64 5 encApiTariff u.2.2.2.2.2.2.2.2.2.2.2.2.1 u.2.2.2.2.2.2.2.2.2.2.2.2.2.1 u.2.2.2.2.2.2.2.2.2.2.2.2.2.2 r.Tariffs]) r := by
 refine calls_v (n := 14) r hr Tryz.func32 ?_
 unfold m_recyclinglaw54_example
 refine sr ?_
 refine lm_alloc 0 [.slice none 0 0, .slice none 0 0, .slice none 0 0, .slice none 0 0, .slice none 0 0, .int .i64 0] (v := .agg #[.slice none 0 0, .slice none 0 0, .slice none 0 0, .slice none 0 0, .slice none 0 0, .int .i64 0]) (by kernel_rfl) (by kernel_rfl) rfl ?_
 intro b5
 refine nn ?_
 refine sr ?_
 refine v_ 1 (fun _ _ => op_build (z := [.string (⟨#[]⟩ : ByteArray), .int .i64 0]) (tab := [(0, 1), (1, 1)]) (cs := [.string _, .int .i64 _]) [(0, [.string _]), (1, [.int .i64 _])] (by kernel_rfl) (by kernel_rfl) (fillOk_cons rfl rfl rfl (fillOk_cons rfl rfl rfl fillOk_nil)) rfl) ?_
 refine lm_slice1 2 (el := 75) (sz := 2) (bytes := 24) (enc := encApiHousehold) (ApiHousehold.mk (⟨#[104]⟩ : ByteArray) 2) (by kernel_rfl) (by kernel_rfl) encApiHousehold_len rfl (by kernel_rfl) ?_
 intro A6 n7 k8 h9
 refine v_ 3 (fun _ _ => op_build (z := [.string (⟨#[]⟩ : ByteArray), .int .i64 0, .int .i64 0, .int .i64 0, .int .i64 0]) (tab := [(0, 1), (1, 1), (2, 1), (3, 1), (4, 1)]) (cs := [.string _, .int .i64 _, .int .i64 _, .int .i64 _, .int .i64 _]) [(0, [.string _]), (2, [.int .i64 _]), (3, [.int .i64 _])] (by kernel_rfl) (by kernel_rfl) (fillOk_cons rfl rfl rfl (fillOk_cons rfl rfl rfl (fillOk_cons rfl rfl rfl fillOk_nil))) rfl) ?_
 refine lm_slice1 4 (el := 77) (sz := 5) (bytes := 48) (enc := encApiContainer) (ApiContainer.mk (⟨#[99]⟩ : ByteArray) 0 120 60000 0) (by kernel_rfl) (by kernel_rfl) encApiContainer_len rfl (by kernel_rfl) ?_
 intro A10 n11 k12 h13
 refine v_ 5 (fun _ _ => op_build (z := [.int .i64 0, .int .i64 0]) (tab := [(0, 1), (1, 1)]) (cs := [.int .i64 _, .int .i64 _]) [(0, [.int .i64 _]), (1, [.int .i64 _])] (by kernel_rfl) (by kernel_rfl) (fillOk_cons rfl rfl rfl (fillOk_cons rfl rfl rfl fillOk_nil)) rfl) ?_
 refine v_ 6 (fun _ _ => op_build (z := [.int .i64 0, .int .i64 0, .int .i64 0, .int .i64 0]) (tab := [(0, 1), (1, 1), (2, 2)]) (cs := [.int .i64 _, .int .i64 _, .int .i64 _, .int .i64 _]) [(2, [.int .i64 _, .int .i64 _])] (by kernel_rfl) (by kernel_rfl) (fillOk_cons rfl rfl rfl fillOk_nil) rfl) ?_
 refine lm_slice1 7 (el := 107) (sz := 4) (bytes := 32) (enc := encApiAssign) (ApiAssign.mk 0 0 (ApiWindow.mk 0 8640000)) (by kernel_rfl) (by kernel_rfl) encApiAssign_len rfl (by kernel_rfl) ?_
 intro A14 n15 k16 h17
 refine v_ 8 (fun _ _ => op_build (z := [.int .i64 0, .int .i64 0]) (tab := [(0, 1), (1, 1)]) (cs := [.int .i64 _, .int .i64 _]) [(0, [.int .i64 _]), (1, [.int .i64 _])] (by kernel_rfl) (by kernel_rfl) (fillOk_cons rfl rfl rfl (fillOk_cons rfl rfl rfl fillOk_nil)) rfl) ?_
 refine v_ 9 (fun _ _ => op_build (z := [.int .i64 0, .int .i64 0, .int .i64 0, .int .i64 0, .int .i64 0, .int .i64 0, .bool false]) (tab := [(0, 1), (1, 1), (2, 1), (3, 1), (4, 2), (6, 1)]) (cs := [.int .i64 _, .int .i64 _, .int .i64 _, .int .i64 _, .int .i64 _, .int .i64 _, .bool false]) [(0, [.int .i64 _]), (2, [.int .i64 _]), (3, [.int .i64 _]), (4, [.int .i64 _, .int .i64 _])] (by kernel_rfl) (by kernel_rfl) (fillOk_cons rfl rfl rfl (fillOk_cons rfl rfl rfl (fillOk_cons rfl rfl rfl (fillOk_cons rfl rfl rfl fillOk_nil)))) rfl) ?_
 refine lm_slice1 10 (el := 59) (sz := 7) (bytes := 56) (enc := encApiEmptying) (ApiEmptying.mk 9 0 3 2592007 (ApiSpan.mk 12300 13900) false) (by kernel_rfl) (by kernel_rfl) encApiEmptying_len rfl (by kernel_rfl) ?_
 intro A18 n19 k20 h21
 refine v_ 11 (fun _ _ => op_build (z := [.int .i64 0, .int .i64 0, .int .i64 0, .int .i64 0, .int .i64 0]) (tab := [(0, 1), (1, 1), (2, 1), (3, 1), (4, 1)]) (cs := [.int .i64 _, .int .i64 _, .int .i64 _, .int .i64 _, .int .i64 _]) [(1, [.int .i64 _]), (2, [.int .i64 _]), (3, [.int .i64 _]), (4, [.int .i64 _])] (by kernel_rfl) (by kernel_rfl) (fillOk_cons rfl rfl rfl (fillOk_cons rfl rfl rfl (fillOk_cons rfl rfl rfl (fillOk_cons rfl rfl rfl fillOk_nil)))) rfl) ?_
 refine lm_slice1 12 (el := 64) (sz := 5) (bytes := 40) (enc := encApiTariff) (ApiTariff.mk 0 10 150 20 5) (by kernel_rfl) (by kernel_rfl) encApiTariff_len rfl (by kernel_rfl) ?_
 intro A22 n23 k24 h25
 refine v_ 13 (fun _ _ => op_build (z := [.slice none 0 0, .slice none 0 0, .slice none 0 0, .slice none 0 0, .slice none 0 0, .int .i64 0]) (tab := [(0, 1), (1, 1), (2, 1), (3, 1), (4, 1), (5, 1)]) (cs := [.slice _ _ _, .slice _ _ _, .slice _ _ _, .slice _ _ _, .slice _ _ _, .int .i64 _]) [(0, [.slice _ _ _]), (1, [.slice _ _ _]), (2, [.slice _ _ _]), (3, [.slice _ _ _]), (4, [.slice _ _ _])] (by kernel_rfl) (by kernel_rfl) (fillOk_cons rfl rfl rfl (fillOk_cons rfl rfl rfl (fillOk_cons rfl rfl rfl (fillOk_cons rfl rfl rfl (fillOk_cons rfl rfl rfl fillOk_nil))))) rfl) ?_
 refine lm_storeA 5 [.slice _ _ _, .slice _ _ _, .slice _ _ _, .slice _ _ _, .slice _ _ _, .int .i64 _] [_, _, _, _, _, _] (H' := [_, _, _, _, _, blkE _ _ [_, _, _, _, _, _]]) (by kernel_rfl) rfl rfl (by kernel_rfl) rfl rfl (by kernel_rfl) rfl rfl ?_
 refine nn ?_
 refine cm_ret ?_
 exact xm_retC rfl (by kernel_rfl) (show _ = Value.pointer (some ⟨_, 0, none⟩) from rfl) (by kernel_rfl) (fun w1 c1 => c1.cells 5 (ds := [.slice _ _ _, .slice _ _ _, .slice _ _ _, .slice _ _ _, .slice _ _ _, .int .i64 _]) rfl rfl) fun w1 c1 => ⟨(A6, n7, k8, A10, n11, k12, A14, n15, k16, A18, n19, k20, A22, n23, k24), rfl, hsub [4, 3, 2, 1, 0] (by kernel_rfl) rfl w1 c1⟩
/-- recyclingref53.Same -/
def m_recyclingref53_Same (N : Nat) (p0 : (List ApiItem)) (p1 : (List ApiItem)) : Option (Bool) :=
 (if (List.length p0 : Int) ≠ (List.length p1 : Int) then
  some (false)
 else
  (andThen
   (loopM (fun (s43 : Int) =>
    (if s43 < (List.length p0 : Int) then
     ck ((0 : Int) ≤ s43 ∧ s43 < (List.length p0 : Int)) (
      ck ((0 : Int) ≤ s43 ∧ s43 < (List.length p1 : Int)) (
       (if (ix p0 s43) ≠ (ix p1 s43) then
        some (.done (.done (false)))
       else
        ck (I64 (s43 + (1 : Int))) (
         some (.next (s43 + (1 : Int)))))))
    else
     some (.done (.next ())))) N (0 : Int))
  fun (_s27 : Unit) =>
   some (true)))
set_option maxRecDepth 20000 in
theorem m_recyclingref53_Same_ok (N : Nat) (w0 : World) (p0 : (List ApiItem)) (p1 : (List ApiItem)) (A_p0 : Option Addr) (n_p0 c_p0 : Nat) (A_p1 : Option Addr) (n_p1 c_p1 : Nat) (hr_p0 : RdE w0 5 encApiItem A_p0 p0) (hz_p0 : SW A_p0 n_p0 c_p0 (List.length p0)) (hr_p1 : RdE w0 5 encApiItem A_p1 p1) (hz_p1 : SW A_p1 n_p1 c_p1 (List.length p1)) (r : Bool) (hr : m_recyclingref53_Same N p0 p1 = some r) :
  Ret Tryz.prog 29 [.slice A_p0 n_p0 c_p0, .slice A_p1 n_p1 c_p1] w0 (fun (r : Bool) (_u : Unit) => .bool r) (fun (_r : Bool) (_u : Unit) => []) r := by
 refine calls_v (n := 26) r hr Tryz.func29 ?_
 unfold m_recyclingref53_Same
 refine sr ?_
 refine la 1 ((4, .bool false) :: _) rfl ?_
 refine nn ?_
 refine cm_seq ?_
 refine sr ?_
 refine la 1 ((6, .slice _ _ _) :: _) rfl ?_
 refine v_ 7 (fun _ _ => op_lenN rfl (by kernel_rfl) hz_p0.2.2) ?_
 refine la 1 ((8, .slice _ _ _) :: _) rfl ?_
 refine v_ 9 (fun _ _ => op_lenN rfl (by kernel_rfl) hz_p1.2.2) ?_
 refine la 1 ((10, .bool _) :: _) rfl ?_
 refine nn ?_
 refine cm_cond (by kernel_rfl) rfl (fun h5 => ?_) (fun h5 => ?_)
 ·refine sr ?_
  refine la 1 ((4, .bool false) :: _) rfl ?_
  refine nn ?_
  refine cm_ret ?_
  refine xm_thenR ?_
  exact xm_retT rfl (by kernel_rfl) (show _ = Value.bool false from rfl) fun w1 c1 => ⟨(), rfl, hsub [] (by kernel_rfl) rfl w1 c1⟩
 ·refine sk ?_
  refine cm_join (σ := Unit) (ξ := Unit) (fun s27 u28 => []) (fun s27 u28 => []) ?_ ?_
  ·refine sr ?_
   refine la 1 ((5, .int .i64 _) :: _) rfl ?_
   refine nn ?_
   refine cm_block ?_
   refine cm_loop (σ := Int) (ξ := Unit) (fun s43 u44 => [(0, .slice A_p0 n_p0 c_p0), (1, .slice A_p1 n_p1 c_p1), (5, .int .i64 s43)]) (fun s43 u44 => []) () ?_ ?_ ?_
   ·exact sq
   ·exact sh []
   intro s43 u44
   refine cm_seq ?_
   refine sr ?_
   refine la 2 ((12, .slice _ _ _) :: (11, .int .i64 _) :: _) rfl ?_
   refine v_ 13 (fun _ _ => op_lenN rfl (by kernel_rfl) hz_p0.2.2) ?_
   refine la 1 ((14, .bool _) :: _) rfl ?_
   refine nn ?_
   refine cm_cond (by kernel_rfl) rfl (fun h45 => ?_) (fun h45 => ?_)
   ·refine sk ?_
    refine cm_seq ?_
    refine cm_block ?_
    refine cm_seq ?_
    refine cm_ck (fun h46 => ?_)
    refine cm_ck (fun h47 => ?_)
    refine cm_drawn [(25, .bool (decide ((ix p0 s43) ≠ (ix p1 s43))))] (by kernel_rfl) (by kernel_rfl) ?_ ?_
    ·refine qa 2 ((18, .int .i64 _) :: (17, .slice _ _ _) :: _) rfl ?_
     refine q_ 19 (fun _ c1 => oI 5 rfl rfl ((hr_p0.old c1).addr h46.1 h46.2) hz_p0.2.2 h46) ?_
     refine q_ 20 (fun _ c1 => oR [.int .i64 ((ix p0 s43).Kind), .int .i64 ((ix p0 s43).Ref), .int .i64 ((ix p0 s43).Count), .int .i64 ((ix p0 s43).Price), .int .i64 ((ix p0 s43).Amount)] ((hr_p0.old c1).row h46.1 h46.2)) ?_
     refine qa 2 ((22, .int .i64 _) :: (21, .slice _ _ _) :: _) rfl ?_
     refine q_ 23 (fun _ c1 => oI 5 rfl rfl ((hr_p1.old c1).addr h47.1 h47.2) hz_p1.2.2 h47) ?_
     refine q_ 24 (fun _ c1 => oR [.int .i64 ((ix p1 s43).Kind), .int .i64 ((ix p1 s43).Ref), .int .i64 ((ix p1 s43).Count), .int .i64 ((ix p1 s43).Price), .int .i64 ((ix p1 s43).Amount)] ((hr_p1.old c1).row h47.1 h47.2)) ?_
     refine q_ 25 (fun _ _ => op_neApiItem (ix p0 s43) (ix p1 s43) rfl rfl) ?_
     exact lq 9
    refine xm_next ?_
    refine cm_cond (by kernel_rfl) rfl (fun h48 => ?_) (fun h48 => ?_)
    ·refine sr ?_
     refine la 1 ((4, .bool false) :: _) rfl ?_
     refine nn ?_
     refine cm_ret ?_
     refine xm_inR ?_
     refine xm_thenR ?_
     refine xm_lret ?_
     refine xm_inR ?_
     refine xm_lret ?_
     exact xm_retT rfl (by kernel_rfl) (show _ = Value.bool false from rfl) fun w1 c1 => ⟨(), rfl, hsub [] (by kernel_rfl) rfl w1 c1⟩
    ·refine cm_skip ?_
     refine xm_inN ?_
     refine xm_next ?_
     refine cm_region ?_
     refine la 1 ((15, .int .i64 _) :: _) rfl ?_
     refine lm_ck (fun h49 => ?_)
     refine v_ 16 (fun _ _ => op_add rfl rfl h49) ?_
     refine la 1 ((5, .int .i64 _) :: _) rfl ?_
     refine lm_nil ?_
     exact xm_lnext () sq (sh [])
   ·refine cm_exit ?_
    refine xm_thenE ?_
    refine xm_lexit ?_
    refine xm_here ?_
    exact xm_lnext () sub_nil (sh [])
  intro s27 u28
  refine sr ?_
  refine la 1 ((4, .bool true) :: _) rfl ?_
  refine nn ?_
  refine cm_ret ?_
  exact xm_retT rfl (by kernel_rfl) (show _ = Value.bool true from rfl) fun w1 c1 => ⟨(), rfl, hsub [] (by kernel_rfl) rfl w1 c1⟩
/-- recyclinglaw54.awake -/
def m_recyclinglaw54_awake (N : Nat)  : Option (Bool) :=
 Option.bind (m_recyclinglaw54_example N) fun r5 => Option.bind (m_bill_Make N r5 (1 : Int) (0 : Int) (ApiWindow.mk 28 33)) fun r8 => Option.bind (m_bill_Explain N r5 r8.1 (2 : Int)) fun r11 => Option.bind (m_bill_Explain N r5 r8.1 (1 : Int)) fun r13 => Option.bind (m_bill_Credit N r8.1 (9 : Int) (290 : Int)) fun r15 => Option.bind (m_bill_Credit N r8.1 (9 : Int) (291 : Int)) fun r18 => Option.bind (m_bill_Credit N r15.1 (9 : Int) (1 : Int)) fun r21 => (if r8.2 = 0 then
  (if r8.1.Total = 340 then
   Option.bind (m_recyclingref53_Same N r8.1.Items ([(ApiItem.mk 1 0 5 10 50), (ApiItem.mk 2 9 1 150 150), (ApiItem.mk 3 9 7 20 140)])) fun r30 => (if r30 = true then
    (if r11.2 = 0 then
     (if r11.1 = (⟨#[119, 101, 105, 103, 104, 116, 32, 111, 102, 32, 101, 109, 112, 116, 121, 105, 110, 103, 32, 57, 32, 102, 114, 111, 109, 32, 49, 50, 51, 48, 48, 32, 116, 111, 32, 49, 51, 57, 48, 48, 32, 103, 114, 97, 109, 115, 58, 32, 55, 32, 107, 103, 32, 97, 116, 32, 50, 48, 58, 32, 49, 52, 48]⟩ : ByteArray) then
      (if r13.2 = 0 then
       (if r13.1 = (⟨#[101, 109, 112, 116, 121, 105, 110, 103, 32, 57, 32, 111, 102, 32, 99, 111, 110, 116, 97, 105, 110, 101, 114, 32, 99, 32, 111, 110, 32, 100, 97, 121, 32, 51, 48, 32, 97, 116, 32, 115, 101, 99, 111, 110, 100, 32, 55, 32, 98, 121, 32, 118, 101, 104, 105, 99, 108, 101, 32, 51, 58, 32, 49, 53, 48]⟩ : ByteArray) then
        (if r15.2 = 0 then
         (if r15.1.Total = 50 then
          (if r18.2 = 1 then
           (if r21.2 = 1 then
            Option.bind (m_bill_Right N r5 r15.1) fun r40 => (if r40 = 0 then
             Option.bind (m_bill_Check N r5) fun r43 => some ((decide (r43 = 0)))
            else
             some (false))
           else
            some (false))
          else
           some (false))
         else
          some (false))
        else
         some (false))
       else
        some (false))
      else
       some (false))
     else
      some (false))
    else
     some (false))
   else
    some (false))
  else
   some (false))
 else
  some (false))
set_option maxHeartbeats 2000000 in
set_option maxRecDepth 20000 in
theorem m_recyclinglaw54_awake_ok (N : Nat) (w0 : World)   (ht : Tab w0) (r : Bool) (hr : m_recyclinglaw54_awake N  = some r) :
  Ret Tryz.prog 13 [] w0 (fun (r : Bool) (_u : Unit) => .bool r) (fun (_r : Bool) (_u : Unit) => []) r := by
 refine calls_v (n := 108) r hr Tryz.func13 ?_
 unfold m_recyclinglaw54_awake
 refine sr ?_
 refine la 1 ((0, .bool false) :: _) rfl ?_
 refine nn ?_
 refine sr ?_
 refine lm_call 14 (V := (fun (r : ApiAccount) (u : (Option Addr) × Nat × Nat × (Option Addr) × Nat × Nat × (Option Addr) × Nat × Nat × (Option Addr) × Nat × Nat × (Option Addr) × Nat × Nat) => .agg #[.slice u.1 u.2.1 u.2.2.1, .slice u.2.2.2.1 u.2.2.2.2.1 u.2.2.2.2.2.1, .slice u.2.2.2.2.2.2.1 u.2.2.2.2.2.2.2.1 u.2.2.2.2.2.2.2.2.1, .slice u.2.2.2.2.2.2.2.2.2.1 u.2.2.2.2.2.2.2.2.2.2.1 u.2.2.2.2.2.2.2.2.2.2.2.1, .slice u.2.2.2.2.2.2.2.2.2.2.2.2.1 u.2.2.2.2.2.2.2.2.2.2.2.2.2.1 u.2.2.2.2.2.2.2.2.2.2.2.2.2.2, .int .i64 r.Gap])) (HR := (fun (r : ApiAccount) (u : (Option Addr) × Nat × Nat × (Option Addr) × Nat × Nat × (Option Addr) × Nat × Nat × (Option Addr) × Nat × Nat × (Option Addr) × Nat × Nat) => [ownE 75 2 encApiHousehold u.1 u.2.1 u.2.2.1 r.Households, ownE 77 5 encApiContainer u.2.2.2.1 u.2.2.2.2.1 u.2.2.2.2.2.1 r.Containers, ownE 107 4 encApiAssign u.2.2.2.2.2.2.1 u.2.2.2.2.2.2.2.1 u.2.2.2.2.2.2.2.2.1 r.Assigns, ownE 59 7 encApiEmptying u.2.2.2.2.2.2.2.2.2.1 u.2.2.2.2.2.2.2.2.2.2.1 u.2.2.2.2.2.2.2.2.2.2.2.1 r.Emptyings, ownE 64 5 encApiTariff u.2.2.2.2.2.2.2.2.2.2.2.2.1 u.2.2.2.2.2.2.2.2.2.2.2.2.2.1 u.2.2.2.2.2.2.2.2.2.2.2.2.2.2 r.Tariffs])) (by kernel_rfl) (fun w1 => op_call (by kernel_rfl)) (fun r1 hr1 w1 c1 => m_recyclinglaw54_example_ok N w1   r1 hr1) ?_
 intro r5 u6
 refine lm_alloc 1 [.slice none 0 0, .slice none 0 0, .slice none 0 0, .slice none 0 0, .slice none 0 0, .int .i64 0] (v := .agg #[.slice none 0 0, .slice none 0 0, .slice none 0 0, .slice none 0 0, .slice none 0 0, .int .i64 0]) (by kernel_rfl) (by kernel_rfl) rfl ?_
 intro b7
 refine lm_storeA 0 [.slice _ _ _, .slice _ _ _, .slice _ _ _, .slice _ _ _, .slice _ _ _, .int .i64 _] [_, _, _, _, _, _] (H' := [blkE _ _ [_, _, _, _, _, _], _, _, _, _, _]) (by kernel_rfl) rfl rfl (by kernel_rfl) rfl rfl (by kernel_rfl) rfl rfl ?_
 refine nn ?_
 refine sr ?_
 refine v_ 16 (fun _ c1 => oR [.slice _ _ _, .slice _ _ _, .slice _ _ _, .slice _ _ _, .slice _ _ _, .int .i64 _] (c1.cells 0 rfl rfl)) ?_
 refine v_ 17 (fun _ _ => op_build (z := [.int .i64 0, .int .i64 0]) (tab := [(0, 1), (1, 1)]) (cs := [.int .i64 _, .int .i64 _]) [(0, [.int .i64 _]), (1, [.int .i64 _])] (by kernel_rfl) (by kernel_rfl) (fillOk_cons rfl rfl rfl (fillOk_cons rfl rfl rfl fillOk_nil)) rfl) ?_
 refine lm_call 18 (V := (fun (r : ApiBill × Int) (u : (Option Addr) × Nat × Nat) => .tuple #[.agg #[.int .i64 r.1.ID, .int .i64 r.1.Household, .int .i64 r.1.When.From, .int .i64 r.1.When.To, .slice u.1 u.2.1 u.2.2, .int .i64 r.1.Total], .int .i64 r.2])) (HR := (fun (r : ApiBill × Int) (u : (Option Addr) × Nat × Nat) => [ownE 66 5 encApiItem u.1 u.2.1 u.2.2 r.1.Items])) (by kernel_rfl) (fun w1 => op_call (by kernel_rfl)) (fun r1 hr1 w1 c1 => m_bill_Make_ok N w1 r5 (1 : Int) (0 : Int) (ApiWindow.mk 28 33) u6.1 u6.2.1 u6.2.2.1 u6.2.2.2.1 u6.2.2.2.2.1 u6.2.2.2.2.2.1 u6.2.2.2.2.2.2.1 u6.2.2.2.2.2.2.2.1 u6.2.2.2.2.2.2.2.2.1 u6.2.2.2.2.2.2.2.2.2.1 u6.2.2.2.2.2.2.2.2.2.2.1 u6.2.2.2.2.2.2.2.2.2.2.2.1 u6.2.2.2.2.2.2.2.2.2.2.2.2.1 u6.2.2.2.2.2.2.2.2.2.2.2.2.2.1 u6.2.2.2.2.2.2.2.2.2.2.2.2.2.2 (c1.own 1 rfl encApiHousehold_len) (c1.ownZ 1 rfl) (c1.own 2 rfl encApiContainer_len) (c1.ownZ 2 rfl) (c1.own 3 rfl encApiAssign_len) (c1.ownZ 3 rfl) (c1.own 4 rfl encApiEmptying_len) (c1.ownZ 4 rfl) (c1.own 5 rfl encApiTariff_len) (c1.ownZ 5 rfl) r1 hr1) ?_
 intro r8 u9
 refine la 3 ((20, .int .i64 _) :: (19, .agg _) :: (15, .tuple _) :: _) rfl ?_
 refine lm_alloc 2 [.int .i64 0, .int .i64 0, .int .i64 0, .int .i64 0, .slice none 0 0, .int .i64 0] (v := .agg #[.int .i64 0, .int .i64 0, .int .i64 0, .int .i64 0, .slice none 0 0, .int .i64 0]) (by kernel_rfl) (by kernel_rfl) rfl ?_
 intro b10
 refine lm_storeA 0 [.int .i64 _, .int .i64 _, .int .i64 _, .int .i64 _, .slice _ _ _, .int .i64 _] [_, _, _, _, _, _] (H' := [blkE _ _ [_, _, _, _, _, _], _, _, _, _, _, _, _]) (by kernel_rfl) rfl rfl (by kernel_rfl) rfl rfl (by kernel_rfl) rfl rfl ?_
 refine la 1 ((3, .int .i64 _) :: _) rfl ?_
 refine nn ?_
 refine sr ?_
 refine v_ 22 (fun _ c1 => oR [.slice _ _ _, .slice _ _ _, .slice _ _ _, .slice _ _ _, .slice _ _ _, .int .i64 _] (c1.cells 2 rfl rfl)) ?_
 refine v_ 23 (fun _ c1 => oR [.int .i64 _, .int .i64 _, .int .i64 _, .int .i64 _, .slice _ _ _, .int .i64 _] (c1.cells 0 rfl rfl)) ?_
 refine lm_call 24 (V := (fun (r : ByteArray × Int) (_u : Unit) => .tuple #[.string r.1, .int .i64 r.2])) (HR := (fun (_r : ByteArray × Int) (_u : Unit) => [])) (by kernel_rfl) (fun w1 => op_call (by kernel_rfl)) (fun r1 hr1 w1 c1 => m_bill_Explain_ok N w1 r5 r8.1 (2 : Int) u6.1 u6.2.1 u6.2.2.1 u6.2.2.2.1 u6.2.2.2.2.1 u6.2.2.2.2.2.1 u6.2.2.2.2.2.2.1 u6.2.2.2.2.2.2.2.1 u6.2.2.2.2.2.2.2.2.1 u6.2.2.2.2.2.2.2.2.2.1 u6.2.2.2.2.2.2.2.2.2.2.1 u6.2.2.2.2.2.2.2.2.2.2.2.1 u6.2.2.2.2.2.2.2.2.2.2.2.2.1 u6.2.2.2.2.2.2.2.2.2.2.2.2.2.1 u6.2.2.2.2.2.2.2.2.2.2.2.2.2.2 u9.1 u9.2.1 u9.2.2 (c1.own 3 rfl encApiHousehold_len) (c1.ownZ 3 rfl) (c1.own 4 rfl encApiContainer_len) (c1.ownZ 4 rfl) (c1.own 5 rfl encApiAssign_len) (c1.ownZ 5 rfl) (c1.own 6 rfl encApiEmptying_len) (c1.ownZ 6 rfl) (c1.own 7 rfl encApiTariff_len) (c1.ownZ 7 rfl) (c1.own 1 rfl encApiItem_len) (c1.ownZ 1 rfl) (hs_tab ht c1) r1 hr1) ?_
 intro r11 u12
 refine la 5 ((5, .int .i64 _) :: (4, .string _) :: (26, .int .i64 _) :: (25, .string _) :: (21, .tuple _) :: _) rfl ?_
 refine nn ?_
 refine sr ?_
 refine v_ 28 (fun _ c1 => oR [.slice _ _ _, .slice _ _ _, .slice _ _ _, .slice _ _ _, .slice _ _ _, .int .i64 _] (c1.cells 2 rfl rfl)) ?_
 refine v_ 29 (fun _ c1 => oR [.int .i64 _, .int .i64 _, .int .i64 _, .int .i64 _, .slice _ _ _, .int .i64 _] (c1.cells 0 rfl rfl)) ?_
 refine lm_call 30 (V := (fun (r : ByteArray × Int) (_u : Unit) => .tuple #[.string r.1, .int .i64 r.2])) (HR := (fun (_r : ByteArray × Int) (_u : Unit) => [])) (by kernel_rfl) (fun w1 => op_call (by kernel_rfl)) (fun r1 hr1 w1 c1 => m_bill_Explain_ok N w1 r5 r8.1 (1 : Int) u6.1 u6.2.1 u6.2.2.1 u6.2.2.2.1 u6.2.2.2.2.1 u6.2.2.2.2.2.1 u6.2.2.2.2.2.2.1 u6.2.2.2.2.2.2.2.1 u6.2.2.2.2.2.2.2.2.1 u6.2.2.2.2.2.2.2.2.2.1 u6.2.2.2.2.2.2.2.2.2.2.1 u6.2.2.2.2.2.2.2.2.2.2.2.1 u6.2.2.2.2.2.2.2.2.2.2.2.2.1 u6.2.2.2.2.2.2.2.2.2.2.2.2.2.1 u6.2.2.2.2.2.2.2.2.2.2.2.2.2.2 u9.1 u9.2.1 u9.2.2 (c1.own 3 rfl encApiHousehold_len) (c1.ownZ 3 rfl) (c1.own 4 rfl encApiContainer_len) (c1.ownZ 4 rfl) (c1.own 5 rfl encApiAssign_len) (c1.ownZ 5 rfl) (c1.own 6 rfl encApiEmptying_len) (c1.ownZ 6 rfl) (c1.own 7 rfl encApiTariff_len) (c1.ownZ 7 rfl) (c1.own 1 rfl encApiItem_len) (c1.ownZ 1 rfl) (hs_tab ht c1) r1 hr1) ?_
 intro r13 u14
 refine la 5 ((7, .int .i64 _) :: (6, .string _) :: (32, .int .i64 _) :: (31, .string _) :: (27, .tuple _) :: _) rfl ?_
 refine nn ?_
 refine sr ?_
 refine v_ 34 (fun _ c1 => oR [.int .i64 _, .int .i64 _, .int .i64 _, .int .i64 _, .slice _ _ _, .int .i64 _] (c1.cells 0 rfl rfl)) ?_
 refine lm_call 35 (V := (fun (r : ApiBill × Int) (u : (Option Addr) × Nat × Nat) => .tuple #[.agg #[.int .i64 r.1.ID, .int .i64 r.1.Household, .int .i64 r.1.When.From, .int .i64 r.1.When.To, .slice u.1 u.2.1 u.2.2, .int .i64 r.1.Total], .int .i64 r.2])) (HR := (fun (r : ApiBill × Int) (u : (Option Addr) × Nat × Nat) => [ownE 66 5 encApiItem u.1 u.2.1 u.2.2 r.1.Items])) (by kernel_rfl) (fun w1 => op_call (by kernel_rfl)) (fun r1 hr1 w1 c1 => m_bill_Credit_ok N w1 r8.1 (9 : Int) (290 : Int) u9.1 u9.2.1 u9.2.2 (c1.own 1 rfl encApiItem_len) (c1.ownZ 1 rfl) r1 hr1) ?_
 intro r15 u16
 refine la 3 ((37, .int .i64 _) :: (36, .agg _) :: (33, .tuple _) :: _) rfl ?_
 refine lm_alloc 8 [.int .i64 0, .int .i64 0, .int .i64 0, .int .i64 0, .slice none 0 0, .int .i64 0] (v := .agg #[.int .i64 0, .int .i64 0, .int .i64 0, .int .i64 0, .slice none 0 0, .int .i64 0]) (by kernel_rfl) (by kernel_rfl) rfl ?_
 intro b17
 refine lm_storeA 0 [.int .i64 _, .int .i64 _, .int .i64 _, .int .i64 _, .slice _ _ _, .int .i64 _] [_, _, _, _, _, _] (H' := [blkE _ _ [_, _, _, _, _, _], _, _, _, _, _, _, _, _, _]) (by kernel_rfl) rfl rfl (by kernel_rfl) rfl rfl (by kernel_rfl) rfl rfl ?_
 refine la 1 ((9, .int .i64 _) :: _) rfl ?_
 refine nn ?_
 refine sr ?_
 refine v_ 39 (fun _ c1 => oR [.int .i64 _, .int .i64 _, .int .i64 _, .int .i64 _, .slice _ _ _, .int .i64 _] (c1.cells 2 rfl rfl)) ?_
 refine lm_call 40 (V := (fun (r : ApiBill × Int) (u : (Option Addr) × Nat × Nat) => .tuple #[.agg #[.int .i64 r.1.ID, .int .i64 r.1.Household, .int .i64 r.1.When.From, .int .i64 r.1.When.To, .slice u.1 u.2.1 u.2.2, .int .i64 r.1.Total], .int .i64 r.2])) (HR := (fun (r : ApiBill × Int) (u : (Option Addr) × Nat × Nat) => [ownE 66 5 encApiItem u.1 u.2.1 u.2.2 r.1.Items])) (by kernel_rfl) (fun w1 => op_call (by kernel_rfl)) (fun r1 hr1 w1 c1 => m_bill_Credit_ok N w1 r8.1 (9 : Int) (291 : Int) u9.1 u9.2.1 u9.2.2 (c1.own 3 rfl encApiItem_len) (c1.ownZ 3 rfl) r1 hr1) ?_
 intro r18 u19
 refine la 3 ((42, .int .i64 _) :: (41, .agg _) :: (38, .tuple _) :: _) rfl ?_
 refine lm_alloc 10 [.int .i64 0, .int .i64 0, .int .i64 0, .int .i64 0, .slice none 0 0, .int .i64 0] (v := .agg #[.int .i64 0, .int .i64 0, .int .i64 0, .int .i64 0, .slice none 0 0, .int .i64 0]) (by kernel_rfl) (by kernel_rfl) rfl ?_
 intro b20
 refine lm_storeA 0 [.int .i64 _, .int .i64 _, .int .i64 _, .int .i64 _, .slice _ _ _, .int .i64 _] [_, _, _, _, _, _] (H' := [blkE _ _ [_, _, _, _, _, _], _, _, _, _, _, _, _, _, _, _, _]) (by kernel_rfl) rfl rfl (by kernel_rfl) rfl rfl (by kernel_rfl) rfl rfl ?_
 refine la 1 ((11, .int .i64 _) :: _) rfl ?_
 refine nn ?_
 refine sr ?_
 refine v_ 44 (fun _ c1 => oR [.int .i64 _, .int .i64 _, .int .i64 _, .int .i64 _, .slice _ _ _, .int .i64 _] (c1.cells 2 rfl rfl)) ?_
 refine lm_call 45 (V := (fun (r : ApiBill × Int) (u : (Option Addr) × Nat × Nat) => .tuple #[.agg #[.int .i64 r.1.ID, .int .i64 r.1.Household, .int .i64 r.1.When.From, .int .i64 r.1.When.To, .slice u.1 u.2.1 u.2.2, .int .i64 r.1.Total], .int .i64 r.2])) (HR := (fun (r : ApiBill × Int) (u : (Option Addr) × Nat × Nat) => [ownE 66 5 encApiItem u.1 u.2.1 u.2.2 r.1.Items])) (by kernel_rfl) (fun w1 => op_call (by kernel_rfl)) (fun r1 hr1 w1 c1 => m_bill_Credit_ok N w1 r15.1 (9 : Int) (1 : Int) u16.1 u16.2.1 u16.2.2 (c1.own 3 rfl encApiItem_len) (c1.ownZ 3 rfl) r1 hr1) ?_
 intro r21 u22
 refine la 3 ((47, .int .i64 _) :: (46, .agg _) :: (43, .tuple _) :: _) rfl ?_
 refine lm_alloc 12 [.int .i64 0, .int .i64 0, .int .i64 0, .int .i64 0, .slice none 0 0, .int .i64 0] (v := .agg #[.int .i64 0, .int .i64 0, .int .i64 0, .int .i64 0, .slice none 0 0, .int .i64 0]) (by kernel_rfl) (by kernel_rfl) rfl ?_
 intro b23
 refine lm_storeA 0 [.int .i64 _, .int .i64 _, .int .i64 _, .int .i64 _, .slice _ _ _, .int .i64 _] [_, _, _, _, _, _] (H' := [blkE _ _ [_, _, _, _, _, _], _, _, _, _, _, _, _, _, _, _, _, _, _]) (by kernel_rfl) rfl rfl (by kernel_rfl) rfl rfl (by kernel_rfl) rfl rfl ?_
 refine la 1 ((13, .int .i64 _) :: _) rfl ?_
 refine nn ?_
 refine sr ?_
 refine la 1 ((48, .int .i64 _) :: _) rfl ?_
 refine lm_decM 49 (by kernel_rfl) (fun w1 c1 => (op_eql rfl rfl)) (fun h24 => ?_) (fun h24 => ?_)
 ·refine la 1 ((50, .bool true) :: _) rfl ?_
  refine v_ 51 (fun _ _ => oF 5 5 rfl) ?_
  refine v_ 52 (fun _ c1 => oL (c1.cell 6 (u := .int .i64 _) rfl rfl)) ?_
  refine lm_decM 53 (by kernel_rfl) (fun w1 c1 => (op_eql rfl rfl)) (fun h25 => ?_) (fun h25 => ?_)
  ·refine la 2 ((55, .bool true) :: (54, .bool true) :: _) rfl ?_
   refine v_ 56 (fun _ _ => oF 4 4 rfl) ?_
   refine v_ 57 (fun _ c1 => oL (c1.cell 6 (u := .slice _ _ _) rfl rfl)) ?_
   refine v_ 58 (fun _ _ => op_build (z := [.int .i64 0, .int .i64 0, .int .i64 0, .int .i64 0, .int .i64 0]) (tab := [(0, 1), (1, 1), (2, 1), (3, 1), (4, 1)]) (cs := [.int .i64 _, .int .i64 _, .int .i64 _, .int .i64 _, .int .i64 _]) [(0, [.int .i64 _]), (2, [.int .i64 _]), (3, [.int .i64 _]), (4, [.int .i64 _])] (by kernel_rfl) (by kernel_rfl) (fillOk_cons rfl rfl rfl (fillOk_cons rfl rfl rfl (fillOk_cons rfl rfl rfl (fillOk_cons rfl rfl rfl fillOk_nil)))) rfl) ?_
   refine v_ 59 (fun _ _ => op_build (z := [.int .i64 0, .int .i64 0, .int .i64 0, .int .i64 0, .int .i64 0]) (tab := [(0, 1), (1, 1), (2, 1), (3, 1), (4, 1)]) (cs := [.int .i64 _, .int .i64 _, .int .i64 _, .int .i64 _, .int .i64 _]) [(0, [.int .i64 _]), (1, [.int .i64 _]), (2, [.int .i64 _]), (3, [.int .i64 _]), (4, [.int .i64 _])] (by kernel_rfl) (by kernel_rfl) (fillOk_cons rfl rfl rfl (fillOk_cons rfl rfl rfl (fillOk_cons rfl rfl rfl (fillOk_cons rfl rfl rfl (fillOk_cons rfl rfl rfl fillOk_nil))))) rfl) ?_
   refine v_ 60 (fun _ _ => op_build (z := [.int .i64 0, .int .i64 0, .int .i64 0, .int .i64 0, .int .i64 0]) (tab := [(0, 1), (1, 1), (2, 1), (3, 1), (4, 1)]) (cs := [.int .i64 _, .int .i64 _, .int .i64 _, .int .i64 _, .int .i64 _]) [(0, [.int .i64 _]), (1, [.int .i64 _]), (2, [.int .i64 _]), (3, [.int .i64 _]), (4, [.int .i64 _])] (by kernel_rfl) (by kernel_rfl) (fillOk_cons rfl rfl rfl (fillOk_cons rfl rfl rfl (fillOk_cons rfl rfl rfl (fillOk_cons rfl rfl rfl (fillOk_cons rfl rfl rfl fillOk_nil))))) rfl) ?_
   refine lm_sliceN 61 (el := 66) (sz := 5) (bytes := 40) (enc := encApiItem) [(ApiItem.mk 1 0 5 10 50), (ApiItem.mk 2 9 1 150 150), (ApiItem.mk 3 9 7 20 140)] (by kernel_rfl) (by kernel_rfl) encApiItem_len rfl ⟨rfl, rfl, ⟨rfl, rfl, ⟨rfl, rfl, trivial⟩⟩⟩ (by kernel_rfl) (by kernel_rfl) ?_
   intro A26 n27 k28 h29
   refine lm_call 62 (V := (fun (r : Bool) (_u : Unit) => .bool r)) (HR := (fun (_r : Bool) (_u : Unit) => [])) (by kernel_rfl) (fun w1 => op_call (by kernel_rfl)) (fun r1 hr1 w1 c1 => m_recyclingref53_Same_ok N w1 r8.1.Items ([(ApiItem.mk 1 0 5 10 50), (ApiItem.mk 2 9 1 150 150), (ApiItem.mk 3 9 7 20 140)]) u9.1 u9.2.1 u9.2.2 A26 n27 k28 (c1.own 8 rfl encApiItem_len) (c1.ownZ 8 rfl) (c1.own 0 rfl encApiItem_len) (c1.ownZ 0 rfl) r1 hr1) ?_
   intro r30 u31
   cases r30
   ·show Lm _ _ _ _ _ _ (if false = true then _ else _) _ _
    simp only [Bool.false_eq_true, if_false]
    refine la 46 ((0, .bool false) :: (107, .bool false) :: (106, undef) :: (105, undef) :: (104, undef) :: (103, .bool false) :: (102, .bool false) :: (101, undef) :: (100, undef) :: (99, undef) :: (98, undef) :: (97, .bool false) :: (96, .bool false) :: (95, undef) :: (94, undef) :: (93, .bool false) :: (92, .bool false) :: (91, undef) :: (90, undef) :: (89, .bool false) :: (88, .bool false) :: (87, undef) :: (86, undef) :: (85, undef) :: (84, .bool false) :: (83, .bool false) :: (82, undef) :: (81, undef) :: (80, .bool false) :: (79, .bool false) :: (78, undef) :: (77, undef) :: (76, .bool false) :: (75, .bool false) :: (74, undef) :: (73, undef) :: (72, .bool false) :: (71, .bool false) :: (70, undef) :: (69, undef) :: (68, .bool false) :: (67, .bool false) :: (66, undef) :: (65, undef) :: (64, .bool false) :: (63, .bool false) :: _) rfl ?_
    refine nn ?_
    refine cm_ret ?_
    exact xm_retT rfl (by kernel_rfl) (show _ = Value.bool false from rfl) fun w1 c1 => ⟨(), rfl, hsub [] (by kernel_rfl) rfl w1 c1⟩
   ·show Lm _ _ _ _ _ _ (if true = true then _ else _) _ _
    simp only [if_true]
    refine la 3 ((65, .int .i64 _) :: (64, .bool true) :: (63, .bool true) :: _) rfl ?_
    refine lm_decM 66 (by kernel_rfl) (fun w1 c1 => (op_eql rfl rfl)) (fun h32 => ?_) (fun h32 => ?_)
    ·refine la 3 ((69, .string _) :: (68, .bool true) :: (67, .bool true) :: _) rfl ?_
     refine lm_decM 70 (by kernel_rfl) (fun w1 c1 => (op_eqlS rfl rfl)) (fun h33 => ?_) (fun h33 => ?_)
     ·refine la 3 ((73, .int .i64 _) :: (72, .bool true) :: (71, .bool true) :: _) rfl ?_
      refine lm_decM 74 (by kernel_rfl) (fun w1 c1 => (op_eql rfl rfl)) (fun h34 => ?_) (fun h34 => ?_)
      ·refine la 3 ((77, .string _) :: (76, .bool true) :: (75, .bool true) :: _) rfl ?_
       refine lm_decM 78 (by kernel_rfl) (fun w1 c1 => (op_eqlS rfl rfl)) (fun h35 => ?_) (fun h35 => ?_)
       ·refine la 3 ((81, .int .i64 _) :: (80, .bool true) :: (79, .bool true) :: _) rfl ?_
        refine lm_decM 82 (by kernel_rfl) (fun w1 c1 => (op_eql rfl rfl)) (fun h36 => ?_) (fun h36 => ?_)
        ·refine la 2 ((84, .bool true) :: (83, .bool true) :: _) rfl ?_
         refine v_ 85 (fun _ _ => oF 5 5 rfl) ?_
         refine v_ 86 (fun _ c1 => oL (c1.cell 5 (u := .int .i64 _) rfl rfl)) ?_
         refine lm_decM 87 (by kernel_rfl) (fun w1 c1 => (op_eql rfl rfl)) (fun h37 => ?_) (fun h37 => ?_)
         ·refine la 3 ((90, .int .i64 _) :: (89, .bool true) :: (88, .bool true) :: _) rfl ?_
          refine lm_decM 91 (by kernel_rfl) (fun w1 c1 => (op_eql rfl rfl)) (fun h38 => ?_) (fun h38 => ?_)
          ·refine la 3 ((94, .int .i64 _) :: (93, .bool true) :: (92, .bool true) :: _) rfl ?_
           refine lm_decM 95 (by kernel_rfl) (fun w1 c1 => (op_eql rfl rfl)) (fun h39 => ?_) (fun h39 => ?_)
           ·refine la 2 ((97, .bool true) :: (96, .bool true) :: _) rfl ?_
            refine v_ 98 (fun _ c1 => oR [.slice _ _ _, .slice _ _ _, .slice _ _ _, .slice _ _ _, .slice _ _ _, .int .i64 _] (c1.cells 9 rfl rfl)) ?_
            refine v_ 99 (fun _ c1 => oR [.int .i64 _, .int .i64 _, .int .i64 _, .int .i64 _, .slice _ _ _, .int .i64 _] (c1.cells 5 rfl rfl)) ?_
            refine lm_call 100 (V := (fun (r : Int) (_u : Unit) => .int .i64 r)) (HR := (fun (_r : Int) (_u : Unit) => [])) (by kernel_rfl) (fun w1 => op_call (by kernel_rfl)) (fun r1 hr1 w1 c1 => m_bill_Right_ok N w1 r5 r15.1 u6.1 u6.2.1 u6.2.2.1 u6.2.2.2.1 u6.2.2.2.2.1 u6.2.2.2.2.2.1 u6.2.2.2.2.2.2.1 u6.2.2.2.2.2.2.2.1 u6.2.2.2.2.2.2.2.2.1 u6.2.2.2.2.2.2.2.2.2.1 u6.2.2.2.2.2.2.2.2.2.2.1 u6.2.2.2.2.2.2.2.2.2.2.2.1 u6.2.2.2.2.2.2.2.2.2.2.2.2.1 u6.2.2.2.2.2.2.2.2.2.2.2.2.2.1 u6.2.2.2.2.2.2.2.2.2.2.2.2.2.2 u16.1 u16.2.1 u16.2.2 (c1.own 10 rfl encApiHousehold_len) (c1.ownZ 10 rfl) (c1.own 11 rfl encApiContainer_len) (c1.ownZ 11 rfl) (c1.own 12 rfl encApiAssign_len) (c1.ownZ 12 rfl) (c1.own 13 rfl encApiEmptying_len) (c1.ownZ 13 rfl) (c1.own 14 rfl encApiTariff_len) (c1.ownZ 14 rfl) (c1.own 6 rfl encApiItem_len) (c1.ownZ 6 rfl) r1 hr1) ?_
            intro r40 u41
            refine lm_decM 101 (by kernel_rfl) (fun w1 c1 => (op_eql rfl rfl)) (fun h42 => ?_) (fun h42 => ?_)
            ·refine la 2 ((103, .bool true) :: (102, .bool true) :: _) rfl ?_
             refine v_ 104 (fun _ c1 => oR [.slice _ _ _, .slice _ _ _, .slice _ _ _, .slice _ _ _, .slice _ _ _, .int .i64 _] (c1.cells 9 rfl rfl)) ?_
             refine lm_call 105 (V := (fun (r : Int) (_u : Unit) => .int .i64 r)) (HR := (fun (_r : Int) (_u : Unit) => [])) (by kernel_rfl) (fun w1 => op_call (by kernel_rfl)) (fun r1 hr1 w1 c1 => m_bill_Check_ok N w1 r5 u6.1 u6.2.1 u6.2.2.1 u6.2.2.2.1 u6.2.2.2.2.1 u6.2.2.2.2.2.1 u6.2.2.2.2.2.2.1 u6.2.2.2.2.2.2.2.1 u6.2.2.2.2.2.2.2.2.1 u6.2.2.2.2.2.2.2.2.2.1 u6.2.2.2.2.2.2.2.2.2.2.1 u6.2.2.2.2.2.2.2.2.2.2.2.1 u6.2.2.2.2.2.2.2.2.2.2.2.2.1 u6.2.2.2.2.2.2.2.2.2.2.2.2.2.1 u6.2.2.2.2.2.2.2.2.2.2.2.2.2.2 (c1.own 10 rfl encApiHousehold_len) (c1.ownZ 10 rfl) (c1.own 11 rfl encApiContainer_len) (c1.ownZ 11 rfl) (c1.own 12 rfl encApiAssign_len) (c1.ownZ 12 rfl) (c1.own 13 rfl encApiEmptying_len) (c1.ownZ 13 rfl) (c1.own 14 rfl encApiTariff_len) (c1.ownZ 14 rfl) r1 hr1) ?_
             intro r43 u44
             refine la 3 ((0, .bool _) :: (107, .bool _) :: (106, .bool _) :: _) rfl ?_
             refine nn ?_
             refine cm_ret ?_
             exact xm_retT rfl (by kernel_rfl) (show _ = Value.bool _ from rfl) fun w1 c1 => ⟨(), rfl, hsub [] (by kernel_rfl) rfl w1 c1⟩
            ·refine la 7 ((0, .bool false) :: (107, .bool false) :: (106, undef) :: (105, undef) :: (104, undef) :: (103, .bool false) :: (102, .bool false) :: _) rfl ?_
             refine nn ?_
             refine cm_ret ?_
             exact xm_retT rfl (by kernel_rfl) (show _ = Value.bool false from rfl) fun w1 c1 => ⟨(), rfl, hsub [] (by kernel_rfl) rfl w1 c1⟩
           ·refine la 13 ((0, .bool false) :: (107, .bool false) :: (106, undef) :: (105, undef) :: (104, undef) :: (103, .bool false) :: (102, .bool false) :: (101, undef) :: (100, undef) :: (99, undef) :: (98, undef) :: (97, .bool false) :: (96, .bool false) :: _) rfl ?_
            refine nn ?_
            refine cm_ret ?_
            exact xm_retT rfl (by kernel_rfl) (show _ = Value.bool false from rfl) fun w1 c1 => ⟨(), rfl, hsub [] (by kernel_rfl) rfl w1 c1⟩
          ·refine la 17 ((0, .bool false) :: (107, .bool false) :: (106, undef) :: (105, undef) :: (104, undef) :: (103, .bool false) :: (102, .bool false) :: (101, undef) :: (100, undef) :: (99, undef) :: (98, undef) :: (97, .bool false) :: (96, .bool false) :: (95, undef) :: (94, undef) :: (93, .bool false) :: (92, .bool false) :: _) rfl ?_
           refine nn ?_
           refine cm_ret ?_
           exact xm_retT rfl (by kernel_rfl) (show _ = Value.bool false from rfl) fun w1 c1 => ⟨(), rfl, hsub [] (by kernel_rfl) rfl w1 c1⟩
         ·refine la 21 ((0, .bool false) :: (107, .bool false) :: (106, undef) :: (105, undef) :: (104, undef) :: (103, .bool false) :: (102, .bool false) :: (101, undef) :: (100, undef) :: (99, undef) :: (98, undef) :: (97, .bool false) :: (96, .bool false) :: (95, undef) :: (94, undef) :: (93, .bool false) :: (92, .bool false) :: (91, undef) :: (90, undef) :: (89, .bool false) :: (88, .bool false) :: _) rfl ?_
          refine nn ?_
          refine cm_ret ?_
          exact xm_retT rfl (by kernel_rfl) (show _ = Value.bool false from rfl) fun w1 c1 => ⟨(), rfl, hsub [] (by kernel_rfl) rfl w1 c1⟩
        ·refine la 26 ((0, .bool false) :: (107, .bool false) :: (106, undef) :: (105, undef) :: (104, undef) :: (103, .bool false) :: (102, .bool false) :: (101, undef) :: (100, undef) :: (99, undef) :: (98, undef) :: (97, .bool false) :: (96, .bool false) :: (95, undef) :: (94, undef) :: (93, .bool false) :: (92, .bool false) :: (91, undef) :: (90, undef) :: (89, .bool false) :: (88, .bool false) :: (87, undef) :: (86, undef) :: (85, undef) :: (84, .bool false) :: (83, .bool false) :: _) rfl ?_
         refine nn ?_
         refine cm_ret ?_
         exact xm_retT rfl (by kernel_rfl) (show _ = Value.bool false from rfl) fun w1 c1 => ⟨(), rfl, hsub [] (by kernel_rfl) rfl w1 c1⟩
       ·refine la 30 ((0, .bool false) :: (107, .bool false) :: (106, undef) :: (105, undef) :: (104, undef) :: (103, .bool false) :: (102, .bool false) :: (101, undef) :: (100, undef) :: (99, undef) :: (98, undef) :: (97, .bool false) :: (96, .bool false) :: (95, undef) :: (94, undef) :: (93, .bool false) :: (92, .bool false) :: (91, undef) :: (90, undef) :: (89, .bool false) :: (88, .bool false) :: (87, undef) :: (86, undef) :: (85, undef) :: (84, .bool false) :: (83, .bool false) :: (82, undef) :: (81, undef) :: (80, .bool false) :: (79, .bool false) :: _) rfl ?_
        refine nn ?_
        refine cm_ret ?_
        exact xm_retT rfl (by kernel_rfl) (show _ = Value.bool false from rfl) fun w1 c1 => ⟨(), rfl, hsub [] (by kernel_rfl) rfl w1 c1⟩
      ·refine la 34 ((0, .bool false) :: (107, .bool false) :: (106, undef) :: (105, undef) :: (104, undef) :: (103, .bool false) :: (102, .bool false) :: (101, undef) :: (100, undef) :: (99, undef) :: (98, undef) :: (97, .bool false) :: (96, .bool false) :: (95, undef) :: (94, undef) :: (93, .bool false) :: (92, .bool false) :: (91, undef) :: (90, undef) :: (89, .bool false) :: (88, .bool false) :: (87, undef) :: (86, undef) :: (85, undef) :: (84, .bool false) :: (83, .bool false) :: (82, undef) :: (81, undef) :: (80, .bool false) :: (79, .bool false) :: (78, undef) :: (77, undef) :: (76, .bool false) :: (75, .bool false) :: _) rfl ?_
       refine nn ?_
       refine cm_ret ?_
       exact xm_retT rfl (by kernel_rfl) (show _ = Value.bool false from rfl) fun w1 c1 => ⟨(), rfl, hsub [] (by kernel_rfl) rfl w1 c1⟩
     ·refine la 38 ((0, .bool false) :: (107, .bool false) :: (106, undef) :: (105, undef) :: (104, undef) :: (103, .bool false) :: (102, .bool false) :: (101, undef) :: (100, undef) :: (99, undef) :: (98, undef) :: (97, .bool false) :: (96, .bool false) :: (95, undef) :: (94, undef) :: (93, .bool false) :: (92, .bool false) :: (91, undef) :: (90, undef) :: (89, .bool false) :: (88, .bool false) :: (87, undef) :: (86, undef) :: (85, undef) :: (84, .bool false) :: (83, .bool false) :: (82, undef) :: (81, undef) :: (80, .bool false) :: (79, .bool false) :: (78, undef) :: (77, undef) :: (76, .bool false) :: (75, .bool false) :: (74, undef) :: (73, undef) :: (72, .bool false) :: (71, .bool false) :: _) rfl ?_
      refine nn ?_
      refine cm_ret ?_
      exact xm_retT rfl (by kernel_rfl) (show _ = Value.bool false from rfl) fun w1 c1 => ⟨(), rfl, hsub [] (by kernel_rfl) rfl w1 c1⟩
    ·refine la 42 ((0, .bool false) :: (107, .bool false) :: (106, undef) :: (105, undef) :: (104, undef) :: (103, .bool false) :: (102, .bool false) :: (101, undef) :: (100, undef) :: (99, undef) :: (98, undef) :: (97, .bool false) :: (96, .bool false) :: (95, undef) :: (94, undef) :: (93, .bool false) :: (92, .bool false) :: (91, undef) :: (90, undef) :: (89, .bool false) :: (88, .bool false) :: (87, undef) :: (86, undef) :: (85, undef) :: (84, .bool false) :: (83, .bool false) :: (82, undef) :: (81, undef) :: (80, .bool false) :: (79, .bool false) :: (78, undef) :: (77, undef) :: (76, .bool false) :: (75, .bool false) :: (74, undef) :: (73, undef) :: (72, .bool false) :: (71, .bool false) :: (70, undef) :: (69, undef) :: (68, .bool false) :: (67, .bool false) :: _) rfl ?_
     refine nn ?_
     refine cm_ret ?_
     exact xm_retT rfl (by kernel_rfl) (show _ = Value.bool false from rfl) fun w1 c1 => ⟨(), rfl, hsub [] (by kernel_rfl) rfl w1 c1⟩
  ·refine la 55 ((0, .bool false) :: (107, .bool false) :: (106, undef) :: (105, undef) :: (104, undef) :: (103, .bool false) :: (102, .bool false) :: (101, undef) :: (100, undef) :: (99, undef) :: (98, undef) :: (97, .bool false) :: (96, .bool false) :: (95, undef) :: (94, undef) :: (93, .bool false) :: (92, .bool false) :: (91, undef) :: (90, undef) :: (89, .bool false) :: (88, .bool false) :: (87, undef) :: (86, undef) :: (85, undef) :: (84, .bool false) :: (83, .bool false) :: (82, undef) :: (81, undef) :: (80, .bool false) :: (79, .bool false) :: (78, undef) :: (77, undef) :: (76, .bool false) :: (75, .bool false) :: (74, undef) :: (73, undef) :: (72, .bool false) :: (71, .bool false) :: (70, undef) :: (69, undef) :: (68, .bool false) :: (67, .bool false) :: (66, undef) :: (65, undef) :: (64, .bool false) :: (63, .bool false) :: (62, undef) :: (61, undef) :: (60, undef) :: (59, undef) :: (58, undef) :: (57, undef) :: (56, undef) :: (55, .bool false) :: (54, .bool false) :: _) rfl ?_
   refine nn ?_
   refine cm_ret ?_
   exact xm_retT rfl (by kernel_rfl) (show _ = Value.bool false from rfl) fun w1 c1 => ⟨(), rfl, hsub [] (by kernel_rfl) rfl w1 c1⟩
 ·refine la 59 ((0, .bool false) :: (107, .bool false) :: (106, undef) :: (105, undef) :: (104, undef) :: (103, .bool false) :: (102, .bool false) :: (101, undef) :: (100, undef) :: (99, undef) :: (98, undef) :: (97, .bool false) :: (96, .bool false) :: (95, undef) :: (94, undef) :: (93, .bool false) :: (92, .bool false) :: (91, undef) :: (90, undef) :: (89, .bool false) :: (88, .bool false) :: (87, undef) :: (86, undef) :: (85, undef) :: (84, .bool false) :: (83, .bool false) :: (82, undef) :: (81, undef) :: (80, .bool false) :: (79, .bool false) :: (78, undef) :: (77, undef) :: (76, .bool false) :: (75, .bool false) :: (74, undef) :: (73, undef) :: (72, .bool false) :: (71, .bool false) :: (70, undef) :: (69, undef) :: (68, .bool false) :: (67, .bool false) :: (66, undef) :: (65, undef) :: (64, .bool false) :: (63, .bool false) :: (62, undef) :: (61, undef) :: (60, undef) :: (59, undef) :: (58, undef) :: (57, undef) :: (56, undef) :: (55, .bool false) :: (54, .bool false) :: (53, undef) :: (52, undef) :: (51, undef) :: (50, .bool false) :: _) rfl ?_
  refine nn ?_
  refine cm_ret ?_
  exact xm_retT rfl (by kernel_rfl) (show _ = Value.bool false from rfl) fun w1 c1 => ⟨(), rfl, hsub [] (by kernel_rfl) rfl w1 c1⟩
end Go.Proofs.YtpbgfdmkebnjgaaGreatDoor
