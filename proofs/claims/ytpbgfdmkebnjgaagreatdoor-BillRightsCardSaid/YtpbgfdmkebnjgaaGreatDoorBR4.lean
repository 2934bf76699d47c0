/- Models of functions, and that the code follows them. Written by deco.py. -/
import Derived.Test.YtpbgfdmkebnjgaaGreatDoorBR3
import Derived.Test.YtpbgfdmkebnjgaaGreatDoorBRC
namespace Go.Proofs.YtpbgfdmkebnjgaaGreatDoor
open Go.RowKit
set_option linter.unusedSectionVars false
variable [JF]

/-- recyclingref54.Right -/
def m_recyclingref54_Right (N : Nat) (p0 : ApiAccount) (p1 : ApiBill) : Option (Int) :=
 Option.bind (m_recyclingref54_Make N p0 p1.ID p1.Household p1.When) fun r7 => (if r7.2 ≠ 0 then
  some (r7.2)
 else
  (if 512 < (List.length p1.Items : Int) then
   some ((8 : Int))
  else
   ck ((!(decide ((List.length p1.Items : Int) < (List.length r7.1.Items : Int)))) = true → (0 : Int) ≤ (List.length r7.1.Items : Int) ∧ (List.length r7.1.Items : Int) ≤ (List.length p1.Items : Int)) (
    callIf ((!(decide ((List.length p1.Items : Int) < (List.length r7.1.Items : Int)))) = true) (m_recyclingref53_Same N (List.take (Int.toNat (List.length r7.1.Items : Int)) p1.Items) r7.1.Items) fun r13 => (if ((decide ((List.length p1.Items : Int) < (List.length r7.1.Items : Int))) || (!r13)) = true then
     some ((34 : Int))
    else
     ck ((0 : Int) ≤ (List.length r7.1.Items : Int) ∧ (List.length r7.1.Items : Int) ≤ (List.length p1.Items : Int)) (
      (andThen
       (loopM (fun (s50 : Int) =>
        (if s50 < (List.length (List.drop (Int.toNat (List.length r7.1.Items : Int)) p1.Items) : Int) then
         ck ((0 : Int) ≤ s50 ∧ s50 < (List.length (List.drop (Int.toNat (List.length r7.1.Items : Int)) p1.Items) : Int)) (
          (if (ix (List.drop (Int.toNat (List.length r7.1.Items : Int)) p1.Items) s50).Kind ≠ 4 then
           some (.done (.done ((34 : Int))))
          else
           ck (I64 (s50 + (1 : Int))) (
            some (.next (s50 + (1 : Int))))))
        else
         some (.done (.next ())))) N (0 : Int))
      fun (_s36 : Unit) =>
       (andThen
        (loopM (fun (s128 : Int) =>
         (if s128 < (List.length (List.drop (Int.toNat (List.length r7.1.Items : Int)) p1.Items) : Int) then
          ck ((0 : Int) ≤ s128 ∧ s128 < (List.length (List.drop (Int.toNat (List.length r7.1.Items : Int)) p1.Items) : Int)) (
           (if ((((decide ((ix (List.drop (Int.toNat (List.length r7.1.Items : Int)) p1.Items) s128).Count ≠ 1)) || (decide ((ix (List.drop (Int.toNat (List.length r7.1.Items : Int)) p1.Items) s128).Amount < -1000000000000))) || (decide (-1 < (ix (List.drop (Int.toNat (List.length r7.1.Items : Int)) p1.Items) s128).Amount))) || (decide ((ix (List.drop (Int.toNat (List.length r7.1.Items : Int)) p1.Items) s128).Price ≠ (ix (List.drop (Int.toNat (List.length r7.1.Items : Int)) p1.Items) s128).Amount))) = true then
            some (.done (.done ((3 : Int))))
           else
            Option.bind (m_recyclingref54_Charged N r7.1.Items ((ix (List.drop (Int.toNat (List.length r7.1.Items : Int)) p1.Items) s128).Ref)) fun r137 => (if ((decide ((ix (List.drop (Int.toNat (List.length r7.1.Items : Int)) p1.Items) s128).Ref ≠ 0)) && (!r137.2)) = true then
             some (.done (.done ((7 : Int))))
            else
             ck (I64 (s128 + (1 : Int))) (
              some (.next (s128 + (1 : Int)))))))
         else
          some (.done (.next ())))) N (0 : Int))
       fun (_s98 : Unit) =>
        (andThen
         (loopM (fun (s204 : Int) =>
          (if s204 < (List.length (List.drop (Int.toNat (List.length r7.1.Items : Int)) p1.Items) : Int) then
           ck ((0 : Int) ≤ s204 ∧ s204 < (List.length (List.drop (Int.toNat (List.length r7.1.Items : Int)) p1.Items) : Int)) (
            Option.bind (m_recyclingref54_Charged N r7.1.Items ((ix (List.drop (Int.toNat (List.length r7.1.Items : Int)) p1.Items) s204).Ref)) fun r208 => ck (r208.2 = true → (0 : Int) ≤ s204 ∧ s204 < (List.length (List.drop (Int.toNat (List.length r7.1.Items : Int)) p1.Items) : Int)) (
             callIf (r208.2 = true) (m_recyclingref54_Credited N (List.drop (Int.toNat (List.length r7.1.Items : Int)) p1.Items) ((ix (List.drop (Int.toNat (List.length r7.1.Items : Int)) p1.Items) s204).Ref)) fun r211 => (if (r208.2 && (decide (r208.1 < r211))) = true then
              some (.done (.done ((1 : Int))))
             else
              ck (I64 (s204 + (1 : Int))) (
               some (.next (s204 + (1 : Int)))))))
          else
           some (.done (.next ())))) N (0 : Int))
        fun (_s178 : Unit) =>
         Option.bind (m_recyclingref54_sum N p1.Items) fun r216 => (if p1.Total ≠ r216 then
          some ((16 : Int))
         else
          some ((0 : Int)))))))))))
set_option maxHeartbeats 2000000 in
set_option maxRecDepth 20000 in
theorem m_recyclingref54_Right_ok (N : Nat) (w0 : World) (p0 : ApiAccount) (p1 : ApiBill) (A_p01 : Option Addr) (n_p01 c_p01 : Nat) (A_p02 : Option Addr) (n_p02 c_p02 : Nat) (A_p03 : Option Addr) (n_p03 c_p03 : Nat) (A_p04 : Option Addr) (n_p04 c_p04 : Nat) (A_p05 : Option Addr) (n_p05 c_p05 : Nat) (A_p11 : Option Addr) (n_p11 c_p11 : Nat) (hr_p01 : RdE w0 2 encApiHousehold A_p01 p0.Households) (hz_p01 : SW A_p01 n_p01 c_p01 (List.length p0.Households)) (hr_p02 : RdE w0 5 encApiContainer A_p02 p0.Containers) (hz_p02 : SW A_p02 n_p02 c_p02 (List.length p0.Containers)) (hr_p03 : RdE w0 4 encApiAssign A_p03 p0.Assigns) (hz_p03 : SW A_p03 n_p03 c_p03 (List.length p0.Assigns)) (hr_p04 : RdE w0 7 encApiEmptying A_p04 p0.Emptyings) (hz_p04 : SW A_p04 n_p04 c_p04 (List.length p0.Emptyings)) (hr_p05 : RdE w0 5 encApiTariff A_p05 p0.Tariffs) (hz_p05 : SW A_p05 n_p05 c_p05 (List.length p0.Tariffs)) (hr_p11 : RdE w0 5 encApiItem A_p11 p1.Items) (hz_p11 : SW A_p11 n_p11 c_p11 (List.length p1.Items)) (r : Int) (hr : m_recyclingref54_Right N p0 p1 = some r) :
  Ret Tryz.prog 22 [.agg #[.slice A_p01 n_p01 c_p01, .slice A_p02 n_p02 c_p02, .slice A_p03 n_p03 c_p03, .slice A_p04 n_p04 c_p04, .slice A_p05 n_p05 c_p05, .int .i64 p0.Gap], .agg #[.int .i64 p1.ID, .int .i64 p1.Household, .int .i64 p1.When.From, .int .i64 p1.When.To, .slice A_p11 n_p11 c_p11, .int .i64 p1.Total]] w0 (fun (r : Int) (_u : Unit) => .int .i64 r) (fun (_r : Int) (_u : Unit) => []) r := by
 refine calls_v (n := 151) r hr Tryz.func22 ?_
 unfold m_recyclingref54_Right
 refine sr ?_
 refine lm_box 2 [.slice _ _ _, .slice _ _ _, .slice _ _ _, .slice _ _ _, .slice _ _ _, .int .i64 _] (by kernel_rfl) rfl ?_
 intro b5
 refine lm_box 3 [.int .i64 _, .int .i64 _, .int .i64 _, .int .i64 _, .slice _ _ _, .int .i64 _] (by kernel_rfl) rfl ?_
 intro b6
 refine la 1 ((4, .int .i64 _) :: _) rfl ?_
 refine nn ?_
 refine sr ?_
 refine v_ 17 (fun _ c1 => oR [.slice _ _ _, .slice _ _ _, .slice _ _ _, .slice _ _ _, .slice _ _ _, .int .i64 _] (c1.cells 1 rfl rfl)) ?_
 refine v_ 18 (fun _ _ => oF 0 0 rfl) ?_
 refine v_ 19 (fun _ c1 => oL (c1.cell 0 (u := .int .i64 _) rfl rfl)) ?_
 refine v_ 20 (fun _ _ => oF 1 1 rfl) ?_
 refine v_ 21 (fun _ c1 => oL (c1.cell 0 (u := .int .i64 _) rfl rfl)) ?_
 refine v_ 22 (fun _ _ => oF 2 2 rfl) ?_
 refine v_ 23 (fun _ c1 => oR [.int .i64 _, .int .i64 _] (c1.cells 0 rfl rfl)) ?_
 refine lm_call 24 (V := (fun (r : ApiBill × Int) (u : (Option Addr) × Nat × Nat) => .tuple #[.agg #[.int .i64 r.1.ID, .int .i64 r.1.Household, .int .i64 r.1.When.From, .int .i64 r.1.When.To, .slice u.1 u.2.1 u.2.2, .int .i64 r.1.Total], .int .i64 r.2])) (HR := (fun (r : ApiBill × Int) (u : (Option Addr) × Nat × Nat) => [ownE 66 5 encApiItem u.1 u.2.1 u.2.2 r.1.Items])) (by kernel_rfl) (fun w1 => op_call (by kernel_rfl)) (fun r1 hr1 w1 c1 => m_recyclingref54_Make_ok N w1 p0 p1.ID p1.Household p1.When A_p01 n_p01 c_p01 A_p02 n_p02 c_p02 A_p03 n_p03 c_p03 A_p04 n_p04 c_p04 A_p05 n_p05 c_p05 (hr_p01.old c1) hz_p01 (hr_p02.old c1) hz_p02 (hr_p03.old c1) hz_p03 (hr_p04.old c1) hz_p04 (hr_p05.old c1) hz_p05 r1 hr1) ?_
 intro r7 u8
 refine la 3 ((26, .int .i64 _) :: (25, .agg _) :: (16, .tuple _) :: _) rfl ?_
 refine lm_alloc 5 [.int .i64 0, .int .i64 0, .int .i64 0, .int .i64 0, .slice none 0 0, .int .i64 0] (v := .agg #[.int .i64 0, .int .i64 0, .int .i64 0, .int .i64 0, .slice none 0 0, .int .i64 0]) (by kernel_rfl) (by kernel_rfl) rfl ?_
 intro b9
 refine lm_storeA 0 [.int .i64 _, .int .i64 _, .int .i64 _, .int .i64 _, .slice _ _ _, .int .i64 _] [_, _, _, _, _, _] (H' := [blkE _ _ [_, _, _, _, _, _], _, _, _]) (by kernel_rfl) rfl rfl (by kernel_rfl) rfl rfl (by kernel_rfl) rfl rfl ?_
 refine la 1 ((6, .int .i64 _) :: _) rfl ?_
 refine nn ?_
 refine cm_seq ?_
 refine sr ?_
 refine la 2 ((28, .bool _) :: (27, .int .i64 _) :: _) rfl ?_
 refine nn ?_
 refine cm_cond (by kernel_rfl) rfl (fun h10 => ?_) (fun h10 => ?_)
 ·refine sr ?_
  refine la 2 ((4, .int .i64 _) :: (29, .int .i64 _) :: _) rfl ?_
  refine nn ?_
  refine cm_ret ?_
  refine xm_thenR ?_
  exact xm_retT rfl (by kernel_rfl) (show _ = Value.int .i64 _ from rfl) fun w1 c1 => ⟨(), rfl, hsub [] (by kernel_rfl) rfl w1 c1⟩
 ·refine sk ?_
  refine cm_seq ?_
  refine sr ?_
  refine v_ 30 (fun _ _ => oF 4 4 rfl) ?_
  refine v_ 31 (fun _ c1 => oL (c1.cell 2 (u := .slice _ _ _) rfl rfl)) ?_
  refine v_ 32 (fun _ _ => op_lenN rfl (by kernel_rfl) hz_p11.2.2) ?_
  refine la 1 ((33, .bool _) :: _) rfl ?_
  refine nn ?_
  refine cm_cond (by kernel_rfl) rfl (fun h11 => ?_) (fun h11 => ?_)
  ·refine sr ?_
   refine la 1 ((4, .int .i64 _) :: _) rfl ?_
   refine nn ?_
   refine cm_ret ?_
   refine xm_thenR ?_
   exact xm_retT rfl (by kernel_rfl) (show _ = Value.int .i64 _ from rfl) fun w1 c1 => ⟨(), rfl, hsub [] (by kernel_rfl) rfl w1 c1⟩
  ·refine sk ?_
   refine cm_seq ?_
   refine cm_seq ?_
   refine cm_ck (fun h12 => ?_)
   refine cm_callIf fun r13 h14 => ?_
   refine cm_drawn [(52, .bool ((decide ((List.length p1.Items : Int) < (List.length r7.1.Items : Int))) || (!r13)))] (by kernel_rfl) (by kernel_rfl) ?_ ?_
   ·refine q_ 34 (fun _ _ => oF 4 4 rfl) ?_
    refine q_ 35 (fun _ c1 => oL (c1.cell 2 (u := .slice _ _ _) rfl rfl)) ?_
    refine q_ 36 (fun _ _ => op_lenN rfl (by kernel_rfl) hz_p11.2.2) ?_
    refine q_ 37 (fun _ _ => oF 4 4 rfl) ?_
    refine q_ 38 (fun _ c1 => oL (c1.cell 0 (u := .slice _ _ _) rfl rfl)) ?_
    refine q_ 39 (fun _ c1 => op_lenN rfl (by kernel_rfl) (c1.ownZ 1 rfl).2.2) ?_
    refine qd 40 (fun _ _ => op_lss rfl rfl) (fun h15 => ?_) (fun h15 => ?_)
    ·refine qa 12 ((52, .bool true) :: (51, undef) :: (50, undef) :: (49, undef) :: (48, undef) :: (47, undef) :: (46, undef) :: (45, undef) :: (44, undef) :: (43, undef) :: (42, undef) :: (41, .bool true) :: _) rfl ?_
     exact leaf_q (sub_out 19 _ rfl (by kernel_rfl) ⟨(congrArg Value.bool (by rw [decide_eq_true h15] <;> rfl)), trivial⟩)
    ·refine qa 1 ((41, .bool false) :: _) rfl ?_
     refine q_ 42 (fun _ _ => oF 4 4 rfl) ?_
     refine q_ 43 (fun _ c1 => oL (c1.cell 2 (u := .slice _ _ _) rfl rfl)) ?_
     refine q_ 44 (fun _ _ => oF 4 4 rfl) ?_
     refine q_ 45 (fun _ c1 => oL (c1.cell 0 (u := .slice _ _ _) rfl rfl)) ?_
     refine q_ 46 (fun _ c1 => op_lenN rfl (by kernel_rfl) (c1.ownZ 1 rfl).2.2) ?_
     refine q_ 47 (fun _ _ => op_sliceTo2 (l := p1.Items) rfl rfl (by kernel_rfl) (by kernel_rfl) hz_p11 (h12 (by rw [decide_eq_false h15] <;> rfl)).1 (h12 (by rw [decide_eq_false h15] <;> rfl)).2) ?_
     refine q_ 48 (fun _ _ => oF 4 4 rfl) ?_
     refine q_ 49 (fun _ c1 => oL (c1.cell 0 (u := .slice _ _ _) rfl rfl)) ?_
     refine wq_call 50 (by kernel_rfl) (fun w1 c1 => op_call (by kernel_rfl)) (fun w1 c1 => (m_recyclingref53_Same_ok N w1 (List.take (Int.toNat (List.length r7.1.Items : Int)) p1.Items) r7.1.Items A_p11 (Int.toNat (List.length r7.1.Items : Int)) c_p11 u8.1 u8.2.1 u8.2.2 ((hr_p11.old c1).take (h12 (by rw [decide_eq_false h15] <;> rfl)).1 (h12 (by rw [decide_eq_false h15] <;> rfl)).2) (hz_p11.take (h12 (by rw [decide_eq_false h15] <;> rfl)).1 (h12 (by rw [decide_eq_false h15] <;> rfl)).2) (c1.own 1 rfl encApiItem_len) (c1.ownZ 1 rfl) r13 (h14 (by rw [decide_eq_false h15] <;> rfl))).mono (fun _ _ ⟨_, hx, hu⟩ => ⟨hx, c1.call hu⟩)) ?_
     refine qa 2 ((52, .bool _) :: (51, .bool _) :: _) rfl ?_
     exact leaf_q (sub_out 19 _ rfl (by kernel_rfl) ⟨(congrArg Value.bool (by rw [decide_eq_false h15] <;> rfl)), trivial⟩)
   refine xm_next ?_
   refine cm_condB (by kernel_rfl) rfl (fun h16 => ?_) (fun h16 => ?_)
   ·refine sr ?_
    refine la 1 ((4, .int .i64 _) :: _) rfl ?_
    refine nn ?_
    refine cm_ret ?_
    refine xm_thenR ?_
    exact xm_retT rfl (by kernel_rfl) (show _ = Value.int .i64 _ from rfl) fun w1 c1 => ⟨(), rfl, hsub [] (by kernel_rfl) rfl w1 c1⟩
   ·refine sk ?_
    refine sr ?_
    refine v_ 53 (fun _ _ => oF 4 4 rfl) ?_
    refine v_ 54 (fun _ c1 => oL (c1.cell 2 (u := .slice _ _ _) rfl rfl)) ?_
    refine v_ 55 (fun _ _ => oF 4 4 rfl) ?_
    refine v_ 56 (fun _ c1 => oL (c1.cell 0 (u := .slice _ _ _) rfl rfl)) ?_
    refine v_ 57 (fun _ c1 => op_lenN rfl (by kernel_rfl) (c1.ownZ 1 rfl).2.2) ?_
    refine lm_ck (fun h17 => ?_)
    refine v_ 58 (fun _ _ => op_sliceFrom (l := p1.Items) 5 rfl rfl (by kernel_rfl) (by kernel_rfl) hz_p11 h17.1 h17.2) ?_
    refine la 1 ((7, .slice _ _ _) :: _) rfl ?_
    refine nn ?_
    refine cm_join (σ := Unit) (ξ := Unit) (fun s36 u37 => [(3, .pointer (some ⟨b6, 0, none⟩)), (5, .pointer (some ⟨b9, 0, none⟩)), (7, .slice (adv A_p11 c_p11 (List.length r7.1.Items : Int) 5) (n_p11 - Int.toNat (List.length r7.1.Items : Int)) (c_p11 - Int.toNat (List.length r7.1.Items : Int)))]) (fun s36 u37 => [blkE b6 39 [.int .i64 p1.ID, .int .i64 p1.Household, .int .i64 p1.When.From, .int .i64 p1.When.To, .slice A_p11 n_p11 c_p11, .int .i64 p1.Total], blkE b9 39 [.int .i64 r7.1.ID, .int .i64 r7.1.Household, .int .i64 r7.1.When.From, .int .i64 r7.1.When.To, .slice u8.1 u8.2.1 u8.2.2, .int .i64 r7.1.Total], ownE 66 5 encApiItem u8.1 u8.2.1 u8.2.2 r7.1.Items]) ?_ ?_
    ·refine sr ?_
     refine la 1 ((8, .int .i64 _) :: _) rfl ?_
     refine nn ?_
     refine cm_block ?_
     refine cm_loop (σ := Int) (ξ := Unit) (fun s50 u51 => [(3, .pointer (some ⟨b6, 0, none⟩)), (5, .pointer (some ⟨b9, 0, none⟩)), (7, .slice (adv A_p11 c_p11 (List.length r7.1.Items : Int) 5) (n_p11 - Int.toNat (List.length r7.1.Items : Int)) (c_p11 - Int.toNat (List.length r7.1.Items : Int))), (8, .int .i64 s50)]) (fun s50 u51 => [blkE b6 39 [.int .i64 p1.ID, .int .i64 p1.Household, .int .i64 p1.When.From, .int .i64 p1.When.To, .slice A_p11 n_p11 c_p11, .int .i64 p1.Total], blkE b9 39 [.int .i64 r7.1.ID, .int .i64 r7.1.Household, .int .i64 r7.1.When.From, .int .i64 r7.1.When.To, .slice u8.1 u8.2.1 u8.2.2, .int .i64 r7.1.Total], ownE 66 5 encApiItem u8.1 u8.2.1 u8.2.2 r7.1.Items]) () ?_ ?_ ?_
     ·exact sq
     ·exact sh [2, 0, 1]
     intro s50 u51
     refine cm_seq ?_
     refine sr ?_
     refine la 2 ((60, .slice _ _ _) :: (59, .int .i64 _) :: _) rfl ?_
     refine v_ 61 (fun _ _ => op_lenN rfl (by kernel_rfl) (hz_p11.drop (sz := 5) h17.1 h17.2).2.2) ?_
     refine la 1 ((62, .bool _) :: _) rfl ?_
     refine nn ?_
     refine cm_cond (by kernel_rfl) rfl (fun h52 => ?_) (fun h52 => ?_)
     ·refine sk ?_
      refine cm_seq ?_
      refine cm_block ?_
      refine sr ?_
      refine la 2 ((66, .int .i64 _) :: (65, .slice _ _ _) :: _) rfl ?_
      refine lm_ck (fun h53 => ?_)
      refine v_ 67 (fun _ c1 => oI 5 rfl rfl (((hr_p11.old c1).drop hz_p11 h17.1 h17.2).addr h53.1 h53.2) (hz_p11.drop (sz := 5) h17.1 h17.2).2.2 h53) ?_
      refine v_ 68 (fun _ _ => op_field0 rfl (by kernel_rfl)) ?_
      refine v_ 69 (fun _ c1 => oL (v := .int .i64 ((ix (List.drop (Int.toNat (List.length r7.1.Items : Int)) p1.Items) s50).Kind)) (((hr_p11.old c1).drop hz_p11 h17.1 h17.2).cell0 h53.1 h53.2 rfl)) ?_
      refine la 1 ((70, .bool _) :: _) rfl ?_
      refine nn ?_
      refine cm_cond (by kernel_rfl) rfl (fun h54 => ?_) (fun h54 => ?_)
      ·refine sr ?_
       refine la 1 ((4, .int .i64 _) :: _) rfl ?_
       refine nn ?_
       refine cm_ret ?_
       refine xm_inR ?_
       refine xm_thenR ?_
       refine xm_lret ?_
       refine xm_inR ?_
       refine xm_lret ?_
       exact xm_retT rfl (by kernel_rfl) (show _ = Value.int .i64 _ from rfl) fun w1 c1 => ⟨(), rfl, hsub [] (by kernel_rfl) rfl w1 c1⟩
      ·refine cm_skip ?_
       refine xm_inN ?_
       refine xm_next ?_
       refine cm_region ?_
       refine la 1 ((63, .int .i64 _) :: _) rfl ?_
       refine lm_ck (fun h55 => ?_)
       refine v_ 64 (fun _ _ => op_add rfl rfl h55) ?_
       refine la 1 ((8, .int .i64 _) :: _) rfl ?_
       refine lm_nil ?_
       exact xm_lnext () sq (sh [0, 1, 2])
     ·refine cm_exit ?_
      refine xm_thenE ?_
      refine xm_lexit ?_
      refine xm_here ?_
      exact xm_lnext () sq (sh [0, 1, 2])
    intro s36 u37
    refine cm_join (σ := Unit) (ξ := Unit) (fun s98 u99 => [(3, .pointer (some ⟨b6, 0, none⟩)), (5, .pointer (some ⟨b9, 0, none⟩)), (7, .slice (adv A_p11 c_p11 (List.length r7.1.Items : Int) 5) (n_p11 - Int.toNat (List.length r7.1.Items : Int)) (c_p11 - Int.toNat (List.length r7.1.Items : Int)))]) (fun s98 u99 => [blkE b6 39 [.int .i64 p1.ID, .int .i64 p1.Household, .int .i64 p1.When.From, .int .i64 p1.When.To, .slice A_p11 n_p11 c_p11, .int .i64 p1.Total], blkE b9 39 [.int .i64 r7.1.ID, .int .i64 r7.1.Household, .int .i64 r7.1.When.From, .int .i64 r7.1.When.To, .slice u8.1 u8.2.1 u8.2.2, .int .i64 r7.1.Total], ownE 66 5 encApiItem u8.1 u8.2.1 u8.2.2 r7.1.Items]) ?_ ?_
    ·refine sr ?_
     refine la 1 ((9, .int .i64 _) :: _) rfl ?_
     refine nn ?_
     refine cm_block ?_
     refine cm_loop (σ := Int) (ξ := Unit) (fun s128 u129 => [(3, .pointer (some ⟨b6, 0, none⟩)), (5, .pointer (some ⟨b9, 0, none⟩)), (7, .slice (adv A_p11 c_p11 (List.length r7.1.Items : Int) 5) (n_p11 - Int.toNat (List.length r7.1.Items : Int)) (c_p11 - Int.toNat (List.length r7.1.Items : Int))), (9, .int .i64 s128)]) (fun s128 u129 => [blkE b6 39 [.int .i64 p1.ID, .int .i64 p1.Household, .int .i64 p1.When.From, .int .i64 p1.When.To, .slice A_p11 n_p11 c_p11, .int .i64 p1.Total], blkE b9 39 [.int .i64 r7.1.ID, .int .i64 r7.1.Household, .int .i64 r7.1.When.From, .int .i64 r7.1.When.To, .slice u8.1 u8.2.1 u8.2.2, .int .i64 r7.1.Total], ownE 66 5 encApiItem u8.1 u8.2.1 u8.2.2 r7.1.Items]) () ?_ ?_ ?_
     ·exact sq
     ·exact sh [0, 1, 2]
     intro s128 u129
     refine cm_seq ?_
     refine sr ?_
     refine la 2 ((72, .slice _ _ _) :: (71, .int .i64 _) :: _) rfl ?_
     refine v_ 73 (fun _ _ => op_lenN rfl (by kernel_rfl) (hz_p11.drop (sz := 5) h17.1 h17.2).2.2) ?_
     refine la 1 ((74, .bool _) :: _) rfl ?_
     refine nn ?_
     refine cm_cond (by kernel_rfl) rfl (fun h130 => ?_) (fun h130 => ?_)
     ·refine sk ?_
      refine cm_seq ?_
      refine cm_block ?_
      refine sr ?_
      refine la 2 ((78, .int .i64 _) :: (77, .slice _ _ _) :: _) rfl ?_
      refine lm_ck (fun h131 => ?_)
      refine v_ 79 (fun _ c1 => oI 5 rfl rfl (((hr_p11.old c1).drop hz_p11 h17.1 h17.2).addr h131.1 h131.2) (hz_p11.drop (sz := 5) h17.1 h17.2).2.2 h131) ?_
      refine v_ 80 (fun _ c1 => oR [.int .i64 ((ix (List.drop (Int.toNat (List.length r7.1.Items : Int)) p1.Items) s128).Kind), .int .i64 ((ix (List.drop (Int.toNat (List.length r7.1.Items : Int)) p1.Items) s128).Ref), .int .i64 ((ix (List.drop (Int.toNat (List.length r7.1.Items : Int)) p1.Items) s128).Count), .int .i64 ((ix (List.drop (Int.toNat (List.length r7.1.Items : Int)) p1.Items) s128).Price), .int .i64 ((ix (List.drop (Int.toNat (List.length r7.1.Items : Int)) p1.Items) s128).Amount)] (((hr_p11.old c1).drop hz_p11 h17.1 h17.2).row h131.1 h131.2)) ?_
      refine lm_alloc 10 [.int .i64 0, .int .i64 0, .int .i64 0, .int .i64 0, .int .i64 0] (v := .agg #[.int .i64 0, .int .i64 0, .int .i64 0, .int .i64 0, .int .i64 0]) (by kernel_rfl) (by kernel_rfl) rfl ?_
      intro b132
      refine lm_storeA 0 [.int .i64 _, .int .i64 _, .int .i64 _, .int .i64 _, .int .i64 _] [_, _, _, _, _] (H' := [blkE _ _ [_, _, _, _, _], _, _, _]) (by kernel_rfl) rfl rfl (by kernel_rfl) rfl rfl (by kernel_rfl) rfl rfl ?_
      refine nn ?_
      refine cm_seq ?_
      refine cm_seq ?_
      refine cm_cutE [(100, .bool ((((decide ((ix (List.drop (Int.toNat (List.length r7.1.Items : Int)) p1.Items) s128).Count ≠ 1)) || (decide ((ix (List.drop (Int.toNat (List.length r7.1.Items : Int)) p1.Items) s128).Amount < -1000000000000))) || (decide (-1 < (ix (List.drop (Int.toNat (List.length r7.1.Items : Int)) p1.Items) s128).Amount))) || (decide ((ix (List.drop (Int.toNat (List.length r7.1.Items : Int)) p1.Items) s128).Price ≠ (ix (List.drop (Int.toNat (List.length r7.1.Items : Int)) p1.Items) s128).Amount))))] ?_ ?_
      ·refine q_ 81 (fun _ _ => oF 2 2 rfl) ?_
       refine q_ 82 (fun _ c1 => oL (c1.cell 0 (u := .int .i64 _) rfl rfl)) ?_
       refine qd 83 (fun _ _ => op_neq rfl rfl) (fun h133 => ?_) (fun h133 => ?_)
       ·refine qa 17 ((100, .bool true) :: (99, undef) :: (98, undef) :: (97, undef) :: (96, undef) :: (95, undef) :: (94, .bool true) :: (93, .bool true) :: (92, undef) :: (91, undef) :: (90, undef) :: (89, .bool true) :: (88, .bool true) :: (87, undef) :: (86, undef) :: (85, undef) :: (84, .bool true) :: _) rfl ?_
        exact leaf_q (sub_out 20 _ rfl (by kernel_rfl) ⟨(congrArg Value.bool (by rw [decide_eq_true h133] <;> rfl)), trivial⟩)
       ·refine qa 1 ((84, .bool false) :: _) rfl ?_
        refine q_ 85 (fun _ _ => oF 4 4 rfl) ?_
        refine q_ 86 (fun _ c1 => oL (c1.cell 0 (u := .int .i64 _) rfl rfl)) ?_
        refine qd 87 (fun _ _ => op_lss rfl rfl) (fun h134 => ?_) (fun h134 => ?_)
        ·refine qa 13 ((100, .bool true) :: (99, undef) :: (98, undef) :: (97, undef) :: (96, undef) :: (95, undef) :: (94, .bool true) :: (93, .bool true) :: (92, undef) :: (91, undef) :: (90, undef) :: (89, .bool true) :: (88, .bool true) :: _) rfl ?_
         exact leaf_q (sub_out 20 _ rfl (by kernel_rfl) ⟨(congrArg Value.bool (by rw [decide_eq_false h133, decide_eq_true h134] <;> rfl)), trivial⟩)
        ·refine qa 2 ((89, .bool false) :: (88, .bool false) :: _) rfl ?_
         refine q_ 90 (fun _ _ => oF 4 4 rfl) ?_
         refine q_ 91 (fun _ c1 => oL (c1.cell 0 (u := .int .i64 _) rfl rfl)) ?_
         refine qd 92 (fun _ _ => op_gtr rfl rfl) (fun h135 => ?_) (fun h135 => ?_)
         ·refine qa 8 ((100, .bool true) :: (99, undef) :: (98, undef) :: (97, undef) :: (96, undef) :: (95, undef) :: (94, .bool true) :: (93, .bool true) :: _) rfl ?_
          exact leaf_q (sub_out 20 _ rfl (by kernel_rfl) ⟨(congrArg Value.bool (by rw [decide_eq_false h133, decide_eq_false h134, decide_eq_true h135] <;> rfl)), trivial⟩)
         ·refine qa 2 ((94, .bool false) :: (93, .bool false) :: _) rfl ?_
          refine q_ 95 (fun _ _ => oF 3 3 rfl) ?_
          refine q_ 96 (fun _ c1 => oL (c1.cell 0 (u := .int .i64 _) rfl rfl)) ?_
          refine q_ 97 (fun _ _ => oF 4 4 rfl) ?_
          refine q_ 98 (fun _ c1 => oL (c1.cell 0 (u := .int .i64 _) rfl rfl)) ?_
          refine qa 2 ((100, .bool _) :: (99, .bool _) :: _) rfl ?_
          exact leaf_q (sub_out 20 _ rfl (by kernel_rfl) ⟨(congrArg Value.bool (by rw [decide_eq_false h133, decide_eq_false h134, decide_eq_false h135] <;> rfl)), trivial⟩)
      refine xm_next ?_
      refine cm_condB (by kernel_rfl) rfl (fun h136 => ?_) (fun h136 => ?_)
      ·refine sr ?_
       refine la 1 ((4, .int .i64 _) :: _) rfl ?_
       refine nn ?_
       refine cm_ret ?_
       refine xm_thenR ?_
       refine xm_inR ?_
       refine xm_thenR ?_
       refine xm_lret ?_
       refine xm_inR ?_
       refine xm_lret ?_
       exact xm_retT rfl (by kernel_rfl) (show _ = Value.int .i64 _ from rfl) fun w1 c1 => ⟨(), rfl, hsub [] (by kernel_rfl) rfl w1 c1⟩
      ·refine sk ?_
       refine sr ?_
       refine v_ 102 (fun _ _ => oF 4 4 rfl) ?_
       refine v_ 103 (fun _ c1 => oL (c1.cell 2 (u := .slice _ _ _) rfl rfl)) ?_
       refine v_ 104 (fun _ _ => oF 1 1 rfl) ?_
       refine v_ 105 (fun _ c1 => oL (c1.cell 0 (u := .int .i64 _) rfl rfl)) ?_
       refine lm_call 106 (V := (fun (r : Int × Bool) (_u : Unit) => .tuple #[.int .i64 r.1, .bool r.2])) (HR := (fun (_r : Int × Bool) (_u : Unit) => [])) (by kernel_rfl) (fun w1 => op_call (by kernel_rfl)) (fun r1 hr1 w1 c1 => m_recyclingref54_Charged_ok N w1 r7.1.Items ((ix (List.drop (Int.toNat (List.length r7.1.Items : Int)) p1.Items) s128).Ref) u8.1 u8.2.1 u8.2.2 (c1.own 3 rfl encApiItem_len) (c1.ownZ 3 rfl) r1 hr1) ?_
       intro r137 u138
       refine la 5 ((12, .bool _) :: (11, .int .i64 _) :: (108, .bool _) :: (107, .int .i64 _) :: (101, .tuple _) :: _) rfl ?_
       refine nn ?_
       refine cm_seq ?_
       refine cm_cutE [(115, .bool ((decide ((ix (List.drop (Int.toNat (List.length r7.1.Items : Int)) p1.Items) s128).Ref ≠ 0)) && (!r137.2)))] ?_ ?_
       ·refine q_ 109 (fun _ _ => oF 1 1 rfl) ?_
        refine q_ 110 (fun _ c1 => oL (c1.cell 0 (u := .int .i64 _) rfl rfl)) ?_
        refine qd 111 (fun _ _ => op_neq rfl rfl) (fun h139 => ?_) (fun h139 => ?_)
        ·refine qa 4 ((115, .bool _) :: (114, .bool _) :: (113, .bool _) :: (112, .bool true) :: _) rfl ?_
         exact leaf_q (sub_out 7 _ rfl (by kernel_rfl) ⟨(congrArg Value.bool (by rw [decide_eq_true h139] <;> rfl)), trivial⟩)
        ·refine qa 4 ((115, .bool false) :: (114, undef) :: (113, undef) :: (112, .bool false) :: _) rfl ?_
         exact leaf_q (sub_out 7 _ rfl (by kernel_rfl) ⟨(congrArg Value.bool (by rw [decide_eq_false h139] <;> rfl)), trivial⟩)
       refine xm_next ?_
       refine cm_condB (by kernel_rfl) rfl (fun h140 => ?_) (fun h140 => ?_)
       ·refine sr ?_
        refine la 1 ((4, .int .i64 _) :: _) rfl ?_
        refine nn ?_
        refine cm_ret ?_
        refine xm_inR ?_
        refine xm_thenR ?_
        refine xm_lret ?_
        refine xm_inR ?_
        refine xm_lret ?_
        exact xm_retT rfl (by kernel_rfl) (show _ = Value.int .i64 _ from rfl) fun w1 c1 => ⟨(), rfl, hsub [] (by kernel_rfl) rfl w1 c1⟩
       ·refine cm_skip ?_
        refine xm_inN ?_
        refine xm_next ?_
        refine cm_region ?_
        refine la 1 ((75, .int .i64 _) :: _) rfl ?_
        refine lm_ck (fun h141 => ?_)
        refine v_ 76 (fun _ _ => op_add rfl rfl h141) ?_
        refine la 1 ((9, .int .i64 _) :: _) rfl ?_
        refine lm_nil ?_
        exact xm_lnext () sq (sh [1, 2, 3])
     ·refine cm_exit ?_
      refine xm_thenE ?_
      refine xm_lexit ?_
      refine xm_here ?_
      exact xm_lnext () sq (sh [0, 1, 2])
    intro s98 u99
    refine cm_join (σ := Unit) (ξ := Unit) (fun s178 u179 => [(3, .pointer (some ⟨b6, 0, none⟩))]) (fun s178 u179 => [blkE b6 39 [.int .i64 p1.ID, .int .i64 p1.Household, .int .i64 p1.When.From, .int .i64 p1.When.To, .slice A_p11 n_p11 c_p11, .int .i64 p1.Total]]) ?_ ?_
    ·refine sr ?_
     refine la 1 ((13, .int .i64 _) :: _) rfl ?_
     refine nn ?_
     refine cm_block ?_
     refine cm_loop (σ := Int) (ξ := Unit) (fun s204 u205 => [(3, .pointer (some ⟨b6, 0, none⟩)), (5, .pointer (some ⟨b9, 0, none⟩)), (7, .slice (adv A_p11 c_p11 (List.length r7.1.Items : Int) 5) (n_p11 - Int.toNat (List.length r7.1.Items : Int)) (c_p11 - Int.toNat (List.length r7.1.Items : Int))), (13, .int .i64 s204)]) (fun s204 u205 => [blkE b6 39 [.int .i64 p1.ID, .int .i64 p1.Household, .int .i64 p1.When.From, .int .i64 p1.When.To, .slice A_p11 n_p11 c_p11, .int .i64 p1.Total], blkE b9 39 [.int .i64 r7.1.ID, .int .i64 r7.1.Household, .int .i64 r7.1.When.From, .int .i64 r7.1.When.To, .slice u8.1 u8.2.1 u8.2.2, .int .i64 r7.1.Total], ownE 66 5 encApiItem u8.1 u8.2.1 u8.2.2 r7.1.Items]) () ?_ ?_ ?_
     ·exact sq
     ·exact sh [0, 1, 2]
     intro s204 u205
     refine cm_seq ?_
     refine sr ?_
     refine la 2 ((117, .slice _ _ _) :: (116, .int .i64 _) :: _) rfl ?_
     refine v_ 118 (fun _ _ => op_lenN rfl (by kernel_rfl) (hz_p11.drop (sz := 5) h17.1 h17.2).2.2) ?_
     refine la 1 ((119, .bool _) :: _) rfl ?_
     refine nn ?_
     refine cm_cond (by kernel_rfl) rfl (fun h206 => ?_) (fun h206 => ?_)
     ·refine sk ?_
      refine cm_seq ?_
      refine cm_block ?_
      refine cm_seq ?_
      refine cm_ck (fun h207 => ?_)
      refine cm_bind fun r208 h209 => ?_
      refine cm_drawn [(14, .int .i64 r208.1), (15, .bool r208.2)] (by kernel_rfl) (by kernel_rfl) ?_ ?_
      ·refine q_ 123 (fun _ _ => oF 4 4 rfl) ?_
       refine q_ 124 (fun _ c1 => oL (c1.cell 1 (u := .slice _ _ _) rfl rfl)) ?_
       refine qa 2 ((126, .int .i64 _) :: (125, .slice _ _ _) :: _) rfl ?_
       refine q_ 127 (fun _ c1 => oI 5 rfl rfl (((hr_p11.old c1).drop hz_p11 h17.1 h17.2).addr h207.1 h207.2) (hz_p11.drop (sz := 5) h17.1 h17.2).2.2 h207) ?_
       refine q_ 128 (fun _ _ => op_field (m := 1) rfl (by kernel_rfl)) ?_
       refine q_ 129 (fun _ c1 => oL (v := .int .i64 ((ix (List.drop (Int.toNat (List.length r7.1.Items : Int)) p1.Items) s204).Ref)) (((hr_p11.old c1).drop hz_p11 h17.1 h17.2).cell (j := 1) h207.1 h207.2 rfl)) ?_
       refine wq_call 130 (by kernel_rfl) (fun w1 c1 => op_call (by kernel_rfl)) (fun w1 c1 => (m_recyclingref54_Charged_ok N w1 r7.1.Items ((ix (List.drop (Int.toNat (List.length r7.1.Items : Int)) p1.Items) s204).Ref) u8.1 u8.2.1 u8.2.2 (c1.own 2 rfl encApiItem_len) (c1.ownZ 2 rfl) r208 h209).mono (fun _ _ ⟨_, hx, hu⟩ => ⟨hx, c1.call hu⟩)) ?_
       refine qa 5 ((15, .bool _) :: (14, .int .i64 _) :: (132, .bool _) :: (131, .int .i64 _) :: (122, .tuple _) :: _) rfl ?_
       exact lq 13
      refine xm_next ?_
      refine cm_seq ?_
      refine cm_ck (fun h210 => ?_)
      refine cm_callIf fun r211 h212 => ?_
      refine cm_cutE [(144, .bool (r208.2 && (decide (r208.1 < r211))))] ?_ ?_
      ·refine wq_bool 133 (by kernel_rfl) (fun w1 c1 => (op_move (v := .bool _) rfl)) (fun h213 => ?_) (fun h213 => ?_)
       ·refine qa 4 ((137, .int .i64 _) :: (136, .slice _ _ _) :: (135, .slice _ _ _) :: (134, .bool true) :: _) rfl ?_
        refine q_ 138 (fun _ c1 => oI 5 rfl rfl (((hr_p11.old c1).drop hz_p11 h17.1 h17.2).addr (h210 (by rw [h213] <;> rfl)).1 (h210 (by rw [h213] <;> rfl)).2) (hz_p11.drop (sz := 5) h17.1 h17.2).2.2 (h210 (by rw [h213] <;> rfl))) ?_
        refine q_ 139 (fun _ _ => op_field (m := 1) rfl (by kernel_rfl)) ?_
        refine q_ 140 (fun _ c1 => oL (v := .int .i64 ((ix (List.drop (Int.toNat (List.length r7.1.Items : Int)) p1.Items) s204).Ref)) (((hr_p11.old c1).drop hz_p11 h17.1 h17.2).cell (j := 1) (h210 (by rw [h213] <;> rfl)).1 (h210 (by rw [h213] <;> rfl)).2 rfl)) ?_
        refine wq_call 141 (by kernel_rfl) (fun w1 c1 => op_call (by kernel_rfl)) (fun w1 c1 => (m_recyclingref54_Credited_ok N w1 (List.drop (Int.toNat (List.length r7.1.Items : Int)) p1.Items) ((ix (List.drop (Int.toNat (List.length r7.1.Items : Int)) p1.Items) s204).Ref) (adv A_p11 c_p11 (List.length r7.1.Items : Int) 5) (n_p11 - Int.toNat (List.length r7.1.Items : Int)) (c_p11 - Int.toNat (List.length r7.1.Items : Int)) ((hr_p11.old c1).drop hz_p11 h17.1 h17.2) (hz_p11.drop (sz := 5) h17.1 h17.2) r211 (h212 (by rw [h213] <;> rfl))).mono (fun _ _ ⟨_, hx, hu⟩ => ⟨hx, c1.call hu⟩)) ?_
        refine qa 3 ((144, .bool _) :: (143, .bool _) :: (142, .int .i64 _) :: _) rfl ?_
        exact leaf_q (sub_out 12 _ rfl (by kernel_rfl) ⟨(congrArg Value.bool (by rw [h213] <;> rfl)), trivial⟩)
       ·refine qa 11 ((144, .bool false) :: (143, undef) :: (142, undef) :: (141, undef) :: (140, undef) :: (139, undef) :: (138, undef) :: (137, undef) :: (136, undef) :: (135, undef) :: (134, .bool false) :: _) rfl ?_
        exact leaf_q (sub_out 12 _ rfl (by kernel_rfl) ⟨(congrArg Value.bool (by rw [h213] <;> rfl)), trivial⟩)
      refine xm_next ?_
      refine cm_condB (by kernel_rfl) rfl (fun h214 => ?_) (fun h214 => ?_)
      ·refine sr ?_
       refine la 1 ((4, .int .i64 _) :: _) rfl ?_
       refine nn ?_
       refine cm_ret ?_
       refine xm_inR ?_
       refine xm_thenR ?_
       refine xm_lret ?_
       refine xm_inR ?_
       refine xm_lret ?_
       exact xm_retT rfl (by kernel_rfl) (show _ = Value.int .i64 _ from rfl) fun w1 c1 => ⟨(), rfl, hsub [] (by kernel_rfl) rfl w1 c1⟩
      ·refine cm_skip ?_
       refine xm_inN ?_
       refine xm_next ?_
       refine cm_region ?_
       refine la 1 ((120, .int .i64 _) :: _) rfl ?_
       refine lm_ck (fun h215 => ?_)
       refine v_ 121 (fun _ _ => op_add rfl rfl h215) ?_
       refine la 1 ((13, .int .i64 _) :: _) rfl ?_
       refine lm_nil ?_
       exact xm_lnext () sq (sh [0, 1, 2])
     ·refine cm_exit ?_
      refine xm_thenE ?_
      refine xm_lexit ?_
      refine xm_here ?_
      exact xm_lnext () sq (sh [0])
    intro s178 u179
    refine cm_seq ?_
    refine cm_seq ?_
    refine cm_bind fun r216 h217 => ?_
    refine cm_drawn [(150, .bool (decide (p1.Total ≠ r216)))] (by kernel_rfl) (by kernel_rfl) ?_ ?_
    ·refine q_ 145 (fun _ _ => oF 5 5 rfl) ?_
     refine q_ 146 (fun _ c1 => oL (c1.cell 0 (u := .int .i64 _) rfl rfl)) ?_
     refine q_ 147 (fun _ _ => oF 4 4 rfl) ?_
     refine q_ 148 (fun _ c1 => oL (c1.cell 0 (u := .slice _ _ _) rfl rfl)) ?_
     refine wq_call 149 (by kernel_rfl) (fun w1 c1 => op_call (by kernel_rfl)) (fun w1 c1 => (m_recyclingref54_sum_ok N w1 p1.Items A_p11 n_p11 c_p11 (hr_p11.old c1) hz_p11 r216 h217).mono (fun _ _ ⟨_, hx, hu⟩ => ⟨hx, c1.call hu⟩)) ?_
     refine qa 1 ((150, .bool _) :: _) rfl ?_
     exact lq 6
    refine xm_next ?_
    refine cm_cond (by kernel_rfl) rfl (fun h218 => ?_) (fun h218 => ?_)
    ·refine sr ?_
     refine la 1 ((4, .int .i64 _) :: _) rfl ?_
     refine nn ?_
     refine cm_ret ?_
     refine xm_thenR ?_
     exact xm_retT rfl (by kernel_rfl) (show _ = Value.int .i64 _ from rfl) fun w1 c1 => ⟨(), rfl, hsub [] (by kernel_rfl) rfl w1 c1⟩
    ·refine sk ?_
     refine sr ?_
     refine la 1 ((4, .int .i64 _) :: _) rfl ?_
     refine nn ?_
     refine cm_ret ?_
     exact xm_retT rfl (by kernel_rfl) (show _ = Value.int .i64 _ from rfl) fun w1 c1 => ⟨(), rfl, hsub [] (by kernel_rfl) rfl w1 c1⟩
end Go.Proofs.YtpbgfdmkebnjgaaGreatDoor
