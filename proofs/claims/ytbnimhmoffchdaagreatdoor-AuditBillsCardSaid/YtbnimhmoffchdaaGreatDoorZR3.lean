/- Models of functions, and that the code follows them. Written by deco.py. -/
import Derived.Test.YtbnimhmoffchdaaGreatDoorZR2
namespace Go.Proofs.YtbnimhmoffchdaaGreatDoor
open Go.RowKit
set_option linter.unusedSectionVars false
variable [JF]

/-- recyclingref59.wellFormed -/
def m_recyclingref59_wellFormed (_N : Nat) (p0 : ApiAccount) (p1 : ApiBill) : Option (Bool) :=
 some ((((((decide (0 ≤ p1.Household)) && (decide (p1.Household < (List.length p0.Households : Int)))) && (decide (0 ≤ p1.When.From))) && (decide (p1.When.From ≤ p1.When.To))) && (decide (p1.When.To ≤ 36525))))
set_option maxHeartbeats 2000000 in
set_option maxRecDepth 20000 in
theorem m_recyclingref59_wellFormed_ok (N : Nat) (w0 : World) (p0 : ApiAccount) (p1 : ApiBill) (a : Option Addr) (i : Nat) (j : Nat) (b : Option Addr) (l : Nat) (m : Nat) (d : Option Addr) (o : Nat) (q : Nat) (e : Option Addr) (t : Nat) (v : Nat) (f : Option Addr) (x : Nat) (y : Nat) (g : Option Addr) (z : Nat) (B : Nat) (_hr_p01 : RdE w0 2 encApiHousehold a p0.Households) (C : SW a i j (List.length p0.Households)) (_hr_p02 : RdE w0 5 encApiContainer b p0.Containers) (_hz_p02 : SW b l m (List.length p0.Containers)) (_hr_p03 : RdE w0 4 encApiAssign d p0.Assigns) (_hz_p03 : SW d o q (List.length p0.Assigns)) (_hr_p04 : RdE w0 7 encApiEmptying e p0.Emptyings) (_hz_p04 : SW e t v (List.length p0.Emptyings)) (_hr_p05 : RdE w0 5 encApiTariff f p0.Tariffs) (_hz_p05 : SW f x y (List.length p0.Tariffs)) (_hr_p11 : RdE w0 5 encApiItem g p1.Items) (_hz_p11 : SW g z B (List.length p1.Items)) (r : Bool) (hr : m_recyclingref59_wellFormed N p0 p1 = some r) :
  Ret Tryz.prog 45 [.agg #[.slice a i j, .slice b l m, .slice d o q, .slice e t v, .slice f x y, .int .i64 p0.Gap], .agg #[.int .i64 p1.ID, .int .i64 p1.Household, .int .i64 p1.When.From, .int .i64 p1.When.To, .slice g z B, .int .i64 p1.Total]] w0 (fun (r : Bool) (_u : Unit) => .bool r) (fun (_r : Bool) (_u : Unit) => []) r := by
 refine calls_v (n := 37) r hr Tryz.func45 ?_
 unfold m_recyclingref59_wellFormed
 refine sr <| lm_box 2 [.slice _ _ _, .slice _ _ _, .slice _ _ _, .slice _ _ _, .slice _ _ _, .int .i64 _] (by kernel_rfl) rfl ?_
 intro b5
 refine lm_box 3 [.int .i64 _, .int .i64 _, .int .i64 _, .int .i64 _, .slice _ _ _, .int .i64 _] (by kernel_rfl) rfl ?_
 intro b6
 refine la 1 ((4, .bool false) :: _) rfl <| nn <| cm_seq <| cm_cutE [(4, .bool (((((decide (0 ≤ p1.Household)) && (decide (p1.Household < (List.length p0.Households : Int)))) && (decide (0 ≤ p1.When.From))) && (decide (p1.When.From ≤ p1.When.To))) && (decide (p1.When.To ≤ 36525))))] ?_ ?_
 ·refine q_ 5 (fun _ _ => oF 1 1 rfl) <| q_ 6 (fun _ c1 => oL (c1.cell 0 (u := .int .i64 _) rfl rfl)) <| qd 7 (fun _ _ => op_geq rfl rfl) (fun h7 => ?_) (fun h7 => ?_)
  ·refine qa 1 ((8, .bool true) :: _) rfl <| q_ 9 (fun _ _ => oF 1 1 rfl) <| q_ 10 (fun _ c1 => oL (c1.cell 0 (u := .int .i64 _) rfl rfl)) <| q_ 11 (fun _ _ => oF 0 0 rfl) <| q_ 12 (fun _ c1 => oL (c1.cell 1 (u := .slice _ _ _) rfl rfl)) <| q_ 13 (fun _ _ => op_lenN rfl (by kernel_rfl) C.2.2) <| qd 14 (fun _ _ => op_lss rfl rfl) (fun h8 => ?_) (fun h8 => ?_)
   ·refine qa 2 ((16, .bool true) :: (15, .bool true) :: _) rfl <| q_ 17 (fun _ _ => oF 2 2 rfl) <| q_ 18 (fun _ _ => oF 0 2 rfl) <| q_ 19 (fun _ c1 => oL (c1.cell 0 (u := .int .i64 _) rfl rfl)) <| qd 20 (fun _ _ => op_geq rfl rfl) (fun h9 => ?_) (fun h9 => ?_)
    ·refine qa 2 ((22, .bool true) :: (21, .bool true) :: _) rfl <| q_ 23 (fun _ _ => oF 2 2 rfl) <| q_ 24 (fun _ _ => oF 0 2 rfl) <| q_ 25 (fun _ c1 => oL (c1.cell 0 (u := .int .i64 _) rfl rfl)) <| q_ 26 (fun _ _ => oF 2 2 rfl) <| q_ 27 (fun _ _ => oF 1 3 rfl) <| q_ 28 (fun _ c1 => oL (c1.cell 0 (u := .int .i64 _) rfl rfl)) <| qd 29 (fun _ _ => op_leq rfl rfl) (fun G => ?_) (fun G => ?_)
     ·refine qa 2 ((31, .bool true) :: (30, .bool true) :: _) rfl <| q_ 32 (fun _ _ => oF 2 2 rfl) <| q_ 33 (fun _ _ => oF 1 3 rfl) <| q_ 34 (fun _ c1 => oL (c1.cell 0 (u := .int .i64 _) rfl rfl)) <| qa 3 ((4, .bool _) :: (36, .bool _) :: (35, .bool _) :: _) rfl ?_
      exact leaf_q (sub_out 33 _ rfl (by kernel_rfl) ⟨(congrArg Value.bool (by rw [decide_eq_true h7, decide_eq_true h8, decide_eq_true h9, decide_eq_true G] <;> rfl)), trivial⟩)
     ·refine qa 8 ((4, .bool false) :: (36, .bool false) :: (35, undef) :: (34, undef) :: (33, undef) :: (32, undef) :: (31, .bool false) :: (30, .bool false) :: _) rfl ?_
      exact leaf_q (sub_out 33 _ rfl (by kernel_rfl) ⟨(congrArg Value.bool (by rw [decide_eq_true h7, decide_eq_true h8, decide_eq_true h9, decide_eq_false G] <;> rfl)), trivial⟩)
    ·refine qa 17 ((4, .bool false) :: (36, .bool false) :: (35, undef) :: (34, undef) :: (33, undef) :: (32, undef) :: (31, .bool false) :: (30, .bool false) :: (29, undef) :: (28, undef) :: (27, undef) :: (26, undef) :: (25, undef) :: (24, undef) :: (23, undef) :: (22, .bool false) :: (21, .bool false) :: _) rfl ?_
     exact leaf_q (sub_out 33 _ rfl (by kernel_rfl) ⟨(congrArg Value.bool (by rw [decide_eq_true h7, decide_eq_true h8, decide_eq_false h9] <;> rfl)), trivial⟩)
   ·refine qa 23 ((4, .bool false) :: (36, .bool false) :: (35, undef) :: (34, undef) :: (33, undef) :: (32, undef) :: (31, .bool false) :: (30, .bool false) :: (29, undef) :: (28, undef) :: (27, undef) :: (26, undef) :: (25, undef) :: (24, undef) :: (23, undef) :: (22, .bool false) :: (21, .bool false) :: (20, undef) :: (19, undef) :: (18, undef) :: (17, undef) :: (16, .bool false) :: (15, .bool false) :: _) rfl ?_
    exact leaf_q (sub_out 33 _ rfl (by kernel_rfl) ⟨(congrArg Value.bool (by rw [decide_eq_true h7, decide_eq_false h8] <;> rfl)), trivial⟩)
  ·refine qa 30 ((4, .bool false) :: (36, .bool false) :: (35, undef) :: (34, undef) :: (33, undef) :: (32, undef) :: (31, .bool false) :: (30, .bool false) :: (29, undef) :: (28, undef) :: (27, undef) :: (26, undef) :: (25, undef) :: (24, undef) :: (23, undef) :: (22, .bool false) :: (21, .bool false) :: (20, undef) :: (19, undef) :: (18, undef) :: (17, undef) :: (16, .bool false) :: (15, .bool false) :: (14, undef) :: (13, undef) :: (12, undef) :: (11, undef) :: (10, undef) :: (9, undef) :: (8, .bool false) :: _) rfl ?_
   exact leaf_q (sub_out 33 _ rfl (by kernel_rfl) ⟨(congrArg Value.bool (by rw [decide_eq_false h7] <;> rfl)), trivial⟩)
 refine xm_next <| cm_ret ?_
 exact xm_retT rfl (by kernel_rfl) (show _ = Value.bool _ from rfl) fun w1 c1 => ⟨(), rfl, hsub [] (by kernel_rfl) rfl w1 c1⟩
/-- recyclingref59.totalRight -/
def m_recyclingref59_totalRight (N : Nat) (p0 : ApiBill) : Option (Bool) :=
 (andThen
  (loopM (fun (a : Int × Int) =>
   (if a.2 < (List.length p0.Items : Int) then
    ck ((0 : Int) ≤ a.2 ∧ a.2 < (List.length p0.Items : Int)) (
     ck ((!(decide ((ix p0.Items a.2).Amount < -1000000000000))) = true → (0 : Int) ≤ a.2 ∧ a.2 < (List.length p0.Items : Int)) (
      (if ((decide ((ix p0.Items a.2).Amount < -1000000000000)) || (decide (1000000000000 < (ix p0.Items a.2).Amount))) = true then
       some (.done (.done (false)))
      else
       ck ((0 : Int) ≤ a.2 ∧ a.2 < (List.length p0.Items : Int)) (
        ck (I64 (a.1 + ((ix p0.Items a.2).Amount))) (
         ck (I64 (a.2 + (1 : Int))) (
          some (.next ((a.1 + ((ix p0.Items a.2).Amount)), (a.2 + (1 : Int))))))))))
   else
    some (.done (.next a.1)))) N ((0 : Int), (0 : Int)))
 fun (b : Int) =>
  some ((decide (b = p0.Total))))
set_option maxHeartbeats 2000000 in
set_option maxRecDepth 20000 in
theorem m_recyclingref59_totalRight_ok (N : Nat) (w0 : World) (p0 : ApiBill) (b : Option Addr) (g : Nat) (i : Nat) (a : RdE w0 5 encApiItem b p0.Items) (d : SW b g i (List.length p0.Items)) (r : Bool) (hr : m_recyclingref59_totalRight N p0 = some r) :
  Ret Tryz.prog 46 [.agg #[.int .i64 p0.ID, .int .i64 p0.Household, .int .i64 p0.When.From, .int .i64 p0.When.To, .slice b g i, .int .i64 p0.Total]] w0 (fun (r : Bool) (_u : Unit) => .bool r) (fun (_r : Bool) (_u : Unit) => []) r := by
 refine calls_v (n := 40) r hr Tryz.func46 ?_
 unfold m_recyclingref59_totalRight
 refine sr <| lm_box 1 [.int .i64 _, .int .i64 _, .int .i64 _, .int .i64 _, .slice _ _ _, .int .i64 _] (by kernel_rfl) rfl ?_
 intro b5
 refine la 1 ((2, .bool false) :: _) rfl <| nn <| sr <| la 1 ((3, .int .i64 _) :: _) rfl <| nn <| cm_join (σ := Int) (ξ := Unit) (fun t x => [(1, .pointer (some ⟨b5, 0, none⟩)), (3, .int .i64 t)]) (fun t x => [blkE b5 52 [.int .i64 p0.ID, .int .i64 p0.Household, .int .i64 p0.When.From, .int .i64 p0.When.To, .slice b g i, .int .i64 p0.Total]]) ?_ ?_
 ·refine sr <| la 1 ((4, .int .i64 _) :: _) rfl <| nn <| cm_block <| cm_loop (σ := Int × Int) (ξ := Unit) (fun e y => [(1, .pointer (some ⟨b5, 0, none⟩)), (3, .int .i64 e.1), (4, .int .i64 e.2)]) (fun e y => [blkE b5 52 [.int .i64 p0.ID, .int .i64 p0.Household, .int .i64 p0.When.From, .int .i64 p0.When.To, .slice b g i, .int .i64 p0.Total]]) () ?_ ?_ ?_
  ·exact sq
  ·exact sh [0]
  intro e y
  refine cm_seq <| sr <| la 1 ((5, .int .i64 _) :: _) rfl <| v_ 6 (fun _ _ => oF 4 4 rfl) <| v_ 7 (fun _ c1 => oL (c1.cell 0 (u := .slice _ _ _) rfl rfl)) <| v_ 8 (fun _ _ => op_lenN rfl (by kernel_rfl) d.2.2) <| la 1 ((9, .bool _) :: _) rfl <| nn <| cm_cond (by kernel_rfl) rfl (fun z => ?_) (fun z => ?_)
  ·refine sk <| cm_seq <| cm_block <| cm_seq <| cm_seq <| cm_ck (fun l => ?_)
   refine cm_ck (fun o => ?_)
   refine cm_cutE [(27, .bool ((decide ((ix p0.Items e.2).Amount < -1000000000000)) || (decide (1000000000000 < (ix p0.Items e.2).Amount))))] ?_ ?_
   ·refine q_ 12 (fun _ _ => oF 4 4 rfl) <| q_ 13 (fun _ c1 => oL (c1.cell 0 (u := .slice _ _ _) rfl rfl)) <| qa 1 ((14, .int .i64 _) :: _) rfl <| q_ 15 (fun _ c1 => oI 5 rfl rfl ((a.old c1).addr l.1 l.2) d.2.2 l) <| q_ 16 (fun _ _ => op_field (m := 4) rfl (by kernel_rfl)) <| q_ 17 (fun _ c1 => oL (v := .int .i64 ((ix p0.Items e.2).Amount)) ((a.old c1).cell (j := 4) l.1 l.2 rfl)) <| qd 18 (fun _ _ => op_lss rfl rfl) (fun f => ?_) (fun f => ?_)
    ·refine qa 9 ((27, .bool true) :: (26, undef) :: (25, undef) :: (24, undef) :: (23, undef) :: (22, undef) :: (21, undef) :: (20, undef) :: (19, .bool true) :: _) rfl ?_
     exact leaf_q (sub_out 16 _ rfl (by kernel_rfl) ⟨(congrArg Value.bool (by rw [decide_eq_true f] <;> rfl)), trivial⟩)
    ·refine qa 1 ((19, .bool false) :: _) rfl <| q_ 20 (fun _ _ => oF 4 4 rfl) <| q_ 21 (fun _ c1 => oL (c1.cell 0 (u := .slice _ _ _) rfl rfl)) <| qa 1 ((22, .int .i64 _) :: _) rfl <| q_ 23 (fun _ c1 => oI 5 rfl rfl ((a.old c1).addr (o (by rw [decide_eq_false f] <;> rfl)).1 (o (by rw [decide_eq_false f] <;> rfl)).2) d.2.2 (o (by rw [decide_eq_false f] <;> rfl))) <| q_ 24 (fun _ _ => op_field (m := 4) rfl (by kernel_rfl)) <| q_ 25 (fun _ c1 => oL (v := .int .i64 ((ix p0.Items e.2).Amount)) ((a.old c1).cell (j := 4) (o (by rw [decide_eq_false f] <;> rfl)).1 (o (by rw [decide_eq_false f] <;> rfl)).2 rfl)) <| qa 2 ((27, .bool _) :: (26, .bool _) :: _) rfl ?_
     exact leaf_q (sub_out 16 _ rfl (by kernel_rfl) ⟨(congrArg Value.bool (by rw [decide_eq_false f] <;> rfl)), trivial⟩)
   refine xm_next <| cm_condB (by kernel_rfl) rfl (fun B => ?_) (fun B => ?_)
   ·refine sr <| la 1 ((2, .bool false) :: _) rfl <| nn <| cm_ret <| xm_thenR <| xm_inR <| xm_thenR <| xm_lret <| xm_inR <| xm_lret ?_
    exact xm_retT rfl (by kernel_rfl) (show _ = Value.bool false from rfl) fun w1 c1 => ⟨(), rfl, hsub [] (by kernel_rfl) rfl w1 c1⟩
   ·refine sk <| cm_region <| la 1 ((28, .int .i64 _) :: _) rfl <| v_ 29 (fun _ _ => oF 4 4 rfl) <| v_ 30 (fun _ c1 => oL (c1.cell 0 (u := .slice _ _ _) rfl rfl)) <| la 1 ((31, .int .i64 _) :: _) rfl <| lm_ck (fun q => ?_)
    refine v_ 32 (fun _ c1 => oI 5 rfl rfl ((a.old c1).addr q.1 q.2) d.2.2 q) <| v_ 33 (fun _ _ => op_field (m := 4) rfl (by kernel_rfl)) <| v_ 34 (fun _ c1 => oL (v := .int .i64 ((ix p0.Items e.2).Amount)) ((a.old c1).cell (j := 4) q.1 q.2 rfl)) <| lm_ck (fun C => ?_)
    refine v_ 35 (fun _ _ => op_add rfl rfl C) <| la 1 ((3, .int .i64 _) :: _) rfl <| lm_nil <| xm_inN <| xm_next <| cm_region <| la 1 ((10, .int .i64 _) :: _) rfl <| lm_ck (fun G => ?_)
    refine v_ 11 (fun _ _ => op_add rfl rfl G) <| la 1 ((4, .int .i64 _) :: _) rfl <| lm_nil ?_
    exact xm_lnext () sq (sh [0])
  ·refine cm_exit <| xm_thenE <| xm_lexit <| xm_here ?_
   exact xm_lnext () sq (sh [0])
 intro t x
 refine sr <| la 1 ((36, .int .i64 _) :: _) rfl <| v_ 37 (fun _ _ => oF 5 5 rfl) <| v_ 38 (fun _ c1 => oL (c1.cell 0 (u := .int .i64 _) rfl rfl)) <| la 2 ((2, .bool _) :: (39, .bool _) :: _) rfl <| nn <| cm_ret ?_
 exact xm_retT rfl (by kernel_rfl) (show _ = Value.bool _ from rfl) fun w1 c1 => ⟨(), rfl, hsub [] (by kernel_rfl) rfl w1 c1⟩
/-- recyclingref59.has -/
def m_recyclingref59_has (N : Nat) (p0 : (List ApiItem)) (p1 : ApiItem) : Option (Bool) :=
 (andThen
  (loopM (fun (a : Int) =>
   (if a < (List.length p0 : Int) then
    ck ((0 : Int) ≤ a ∧ a < (List.length p0 : Int)) (
     (if (ix p0 a) = p1 then
      some (.done (.done (true)))
     else
      ck (I64 (a + (1 : Int))) (
       some (.next (a + (1 : Int))))))
   else
    some (.done (.next ())))) N (0 : Int))
 fun (_s24 : Unit) =>
  some (false))
set_option maxRecDepth 20000 in
theorem m_recyclingref59_has_ok (N : Nat) (w0 : World) (p0 : (List ApiItem)) (p1 : ApiItem) (b : Option Addr) (e : Nat) (f : Nat) (g : RdE w0 5 encApiItem b p0) (i : SW b e f (List.length p0)) (r : Bool) (hr : m_recyclingref59_has N p0 p1 = some r) :
  Ret Tryz.prog 98 [.slice b e f, .agg #[.int .i64 p1.Kind, .int .i64 p1.Ref, .int .i64 p1.Count, .int .i64 p1.Price, .int .i64 p1.Amount]] w0 (fun (r : Bool) (_u : Unit) => .bool r) (fun (_r : Bool) (_u : Unit) => []) r := by
 refine calls_v (n := 18) r hr Tryz.func98 ?_
 unfold m_recyclingref59_has
 refine sr <| lm_box 3 [.int .i64 _, .int .i64 _, .int .i64 _, .int .i64 _, .int .i64 _] (by kernel_rfl) rfl ?_
 intro b5
 refine la 1 ((4, .bool false) :: _) rfl <| nn <| cm_join (σ := Unit) (ξ := Unit) (fun j l => []) (fun j l => []) ?_ ?_
 ·refine sr <| la 1 ((5, .int .i64 _) :: _) rfl <| nn <| cm_block <| cm_loop (σ := Int) (ξ := Unit) (fun a m => [(0, .slice b e f), (3, .pointer (some ⟨b5, 0, none⟩)), (5, .int .i64 a)]) (fun a m => [blkE b5 100 [.int .i64 p1.Kind, .int .i64 p1.Ref, .int .i64 p1.Count, .int .i64 p1.Price, .int .i64 p1.Amount]]) () ?_ ?_ ?_
  ·exact sq
  ·exact sh [0]
  intro a m
  refine cm_seq <| sr <| la 2 ((7, .slice _ _ _) :: (6, .int .i64 _) :: _) rfl <| v_ 8 (fun _ _ => op_lenN rfl (by kernel_rfl) i.2.2) <| la 1 ((9, .bool _) :: _) rfl <| nn <| cm_cond (by kernel_rfl) rfl (fun o => ?_) (fun o => ?_)
  ·refine sk <| cm_seq <| cm_block <| cm_seq <| cm_ck (fun d => ?_)
   refine cm_drawn [(17, .bool (decide ((ix p0 a) = p1)))] (by kernel_rfl) (by kernel_rfl) ?_ ?_
   ·refine qa 2 ((13, .int .i64 _) :: (12, .slice _ _ _) :: _) rfl <| q_ 14 (fun _ c1 => oI 5 rfl rfl ((g.old c1).addr d.1 d.2) i.2.2 d) <| q_ 15 (fun _ c1 => oR [.int .i64 ((ix p0 a).Kind), .int .i64 ((ix p0 a).Ref), .int .i64 ((ix p0 a).Count), .int .i64 ((ix p0 a).Price), .int .i64 ((ix p0 a).Amount)] ((g.old c1).row d.1 d.2)) <| q_ 16 (fun _ c1 => oR [.int .i64 _, .int .i64 _, .int .i64 _, .int .i64 _, .int .i64 _] (c1.cells 0 rfl rfl)) <| q_ 17 (fun _ _ => op_eqApiItem (ix p0 a) p1 rfl rfl) ?_
    exact lq 6
   refine xm_next <| cm_cond (by kernel_rfl) rfl (fun q => ?_) (fun q => ?_)
   ·refine sr <| la 1 ((4, .bool true) :: _) rfl <| nn <| cm_ret <| xm_inR <| xm_thenR <| xm_lret <| xm_inR <| xm_lret ?_
    exact xm_retT rfl (by kernel_rfl) (show _ = Value.bool true from rfl) fun w1 c1 => ⟨(), rfl, hsub [] (by kernel_rfl) rfl w1 c1⟩
   ·refine cm_skip <| xm_inN <| xm_next <| cm_region <| la 1 ((10, .int .i64 _) :: _) rfl <| lm_ck (fun t => ?_)
    refine v_ 11 (fun _ _ => op_add rfl rfl t) <| la 1 ((5, .int .i64 _) :: _) rfl <| lm_nil ?_
    exact xm_lnext () sq (sh [0])
  ·refine cm_exit <| xm_thenE <| xm_lexit <| xm_here ?_
   exact xm_lnext () sub_nil (sh [])
 intro j l
 refine sr <| la 1 ((4, .bool false) :: _) rfl <| nn <| cm_ret ?_
 exact xm_retT rfl (by kernel_rfl) (show _ = Value.bool false from rfl) fun w1 c1 => ⟨(), rfl, hsub [] (by kernel_rfl) rfl w1 c1⟩
/-- recyclingref59.record -/
def m_recyclingref59_record (N : Nat) (p0 : (List ApiEmptying)) (p1 : Int) : Option (ApiEmptying × Bool) :=
 (andThen
  (loopM (fun (a : Int) =>
   (if a < (List.length p0 : Int) then
    ck ((0 : Int) ≤ a ∧ a < (List.length p0 : Int)) (
     (if (ix p0 a).ID = p1 then
      ck ((0 : Int) ≤ a ∧ a < (List.length p0 : Int)) (
       some (.done (.done (((ix p0 a), true)))))
     else
      ck (I64 (a + (1 : Int))) (
       some (.next (a + (1 : Int))))))
   else
    some (.done (.next ())))) N (0 : Int))
 fun (_s27 : Unit) =>
  some (((ApiEmptying.mk 0 0 0 0 (ApiSpan.mk 0 0) false), false)))
set_option maxRecDepth 20000 in
theorem m_recyclingref59_record_ok (N : Nat) (w0 : World) (p0 : (List ApiEmptying)) (p1 : Int) (d : Option Addr) (i : Nat) (j : Nat) (b : RdE w0 7 encApiEmptying d p0) (e : SW d i j (List.length p0)) (r : ApiEmptying × Bool) (hr : m_recyclingref59_record N p0 p1 = some r) :
  Ret Tryz.prog 99 [.slice d i j, .int .i64 p1] w0 (fun (r : ApiEmptying × Bool) (_u : Unit) => .tuple #[.agg #[.int .i64 r.1.ID, .int .i64 r.1.Container, .int .i64 r.1.Vehicle, .int .i64 r.1.At, .int .i64 r.1.Mass.Lo, .int .i64 r.1.Mass.Hi, .bool r.1.Void], .bool r.2]) (fun (_r : ApiEmptying × Bool) (_u : Unit) => []) r := by
 refine calls_v (n := 25) r hr Tryz.func99 ?_
 unfold m_recyclingref59_record
 refine sr <| lm_alloc 4 [.int .i64 0, .int .i64 0, .int .i64 0, .int .i64 0, .int .i64 0, .int .i64 0, .bool false] (v := .agg #[.int .i64 0, .int .i64 0, .int .i64 0, .int .i64 0, .int .i64 0, .int .i64 0, .bool false]) (by kernel_rfl) (by kernel_rfl) rfl ?_
 intro b5
 refine la 1 ((5, .bool false) :: _) rfl <| nn <| cm_join (σ := Unit) (ξ := Unit) (fun l m => [(4, .pointer (some ⟨b5, 0, none⟩))]) (fun l m => [blkE b5 117 [.int .i64 0, .int .i64 0, .int .i64 0, .int .i64 0, .int .i64 0, .int .i64 0, .bool false]]) ?_ ?_
 ·refine sr <| la 1 ((6, .int .i64 _) :: _) rfl <| nn <| cm_block <| cm_loop (σ := Int) (ξ := Unit) (fun a o => [(0, .slice d i j), (1, .int .i64 p1), (4, .pointer (some ⟨b5, 0, none⟩)), (6, .int .i64 a)]) (fun a o => [blkE b5 117 [.int .i64 0, .int .i64 0, .int .i64 0, .int .i64 0, .int .i64 0, .int .i64 0, .bool false]]) () ?_ ?_ ?_
  ·exact sq
  ·exact sh [0]
  intro a o
  refine cm_seq <| sr <| la 2 ((8, .slice _ _ _) :: (7, .int .i64 _) :: _) rfl <| v_ 9 (fun _ _ => op_lenN rfl (by kernel_rfl) e.2.2) <| la 1 ((10, .bool _) :: _) rfl <| nn <| cm_cond (by kernel_rfl) rfl (fun q => ?_) (fun q => ?_)
  ·refine sk <| cm_seq <| cm_block <| sr <| la 2 ((14, .int .i64 _) :: (13, .slice _ _ _) :: _) rfl <| lm_ck (fun f => ?_)
   refine v_ 15 (fun _ c1 => oI 7 rfl rfl ((b.old c1).addr f.1 f.2) e.2.2 f) <| v_ 16 (fun _ _ => op_field0 rfl (by kernel_rfl)) <| v_ 17 (fun _ c1 => oL (v := .int .i64 ((ix p0 a).ID)) ((b.old c1).cell0 f.1 f.2 rfl)) <| la 2 ((19, .bool _) :: (18, .int .i64 _) :: _) rfl <| nn <| cm_cond (by kernel_rfl) rfl (fun t => ?_) (fun t => ?_)
   ·refine sr <| la 2 ((21, .int .i64 _) :: (20, .slice _ _ _) :: _) rfl <| lm_ck (fun g => ?_)
    refine v_ 22 (fun _ c1 => oI 7 rfl rfl ((b.old c1).addr g.1 g.2) e.2.2 g) <| v_ 23 (fun _ c1 => oR [.int .i64 ((ix p0 a).ID), .int .i64 ((ix p0 a).Container), .int .i64 ((ix p0 a).Vehicle), .int .i64 ((ix p0 a).At), .int .i64 ((ix p0 a).Mass.Lo), .int .i64 ((ix p0 a).Mass.Hi), .bool ((ix p0 a).Void)] ((b.old c1).row g.1 g.2)) <| lm_storeA 0 [.int .i64 _, .int .i64 _, .int .i64 _, .int .i64 _, .int .i64 _, .int .i64 _, .bool _] [_, _, _, _, _, _, _] (H' := [blkE _ _ [_, _, _, _, _, _, _]]) (by kernel_rfl) rfl rfl (by kernel_rfl) rfl rfl (by kernel_rfl) rfl rfl <| la 1 ((5, .bool true) :: _) rfl <| nn <| cm_ret <| xm_inR <| xm_thenR <| xm_lret <| xm_inR <| xm_lret ?_
    exact xm_retCT rfl (by kernel_rfl) (show _ = Value.pointer (some ⟨_, 0, none⟩) from rfl) (by kernel_rfl) (fun w1 c1 => c1.cells 0 (ds := [.int .i64 _, .int .i64 _, .int .i64 _, .int .i64 _, .int .i64 _, .int .i64 _, .bool _]) rfl rfl) (by kernel_rfl) (show _ = Value.bool true from rfl) fun w1 c1 => ⟨(), rfl, hsub [] (by kernel_rfl) rfl w1 c1⟩
   ·refine cm_skip <| xm_inN <| xm_next <| cm_region <| la 1 ((11, .int .i64 _) :: _) rfl <| lm_ck (fun x => ?_)
    refine v_ 12 (fun _ _ => op_add rfl rfl x) <| la 1 ((6, .int .i64 _) :: _) rfl <| lm_nil ?_
    exact xm_lnext () sq (sh [0])
  ·refine cm_exit <| xm_thenE <| xm_lexit <| xm_here ?_
   exact xm_lnext () sq (sh [0])
 intro l m
 refine sr <| v_ 24 (fun _ _ => op_build (z := [.int .i64 0, .int .i64 0, .int .i64 0, .int .i64 0, .int .i64 0, .int .i64 0, .bool false]) (tab := [(0, 1), (1, 1), (2, 1), (3, 1), (4, 2), (6, 1)]) (cs := [.int .i64 _, .int .i64 _, .int .i64 _, .int .i64 _, .int .i64 _, .int .i64 _, .bool false]) [] (by kernel_rfl) (by kernel_rfl) fillOk_nil rfl) <| lm_storeA 0 [.int .i64 _, .int .i64 _, .int .i64 _, .int .i64 _, .int .i64 _, .int .i64 _, .bool false] [_, _, _, _, _, _, _] (H' := [blkE _ _ [_, _, _, _, _, _, _]]) (by kernel_rfl) rfl rfl (by kernel_rfl) rfl rfl (by kernel_rfl) rfl rfl <| la 1 ((5, .bool false) :: _) rfl <| nn <| cm_ret ?_
 exact xm_retCT rfl (by kernel_rfl) (show _ = Value.pointer (some ⟨_, 0, none⟩) from rfl) (by kernel_rfl) (fun w1 c1 => c1.cells 0 (ds := [.int .i64 _, .int .i64 _, .int .i64 _, .int .i64 _, .int .i64 _, .int .i64 _, .bool false]) rfl rfl) (by kernel_rfl) (show _ = Value.bool false from rfl) fun w1 c1 => ⟨(), rfl, hsub [] (by kernel_rfl) rfl w1 c1⟩
/-- recyclingref14.Covers -/
def m_recyclingref14_Covers (_N : Nat) (p0 : ApiAssign) (p1 : Int) : Option (Bool) :=
 some (((decide (p0.When.From ≤ p1)) && (decide (p1 < p0.When.To))))
set_option maxRecDepth 20000 in
theorem m_recyclingref14_Covers_ok (N : Nat) (w0 : World) (p0 : ApiAssign) (p1 : Int)   (r : Bool) (hr : m_recyclingref14_Covers N p0 p1 = some r) :
  Ret Tryz.prog 138 [.agg #[.int .i64 p0.Container, .int .i64 p0.Household, .int .i64 p0.When.From, .int .i64 p0.When.To], .int .i64 p1] w0 (fun (r : Bool) (_u : Unit) => .bool r) (fun (_r : Bool) (_u : Unit) => []) r := by
 refine calls_v (n := 17) r hr Tryz.func138 ?_
 unfold m_recyclingref14_Covers
 refine sr <| lm_box 2 [.int .i64 _, .int .i64 _, .int .i64 _, .int .i64 _] (by kernel_rfl) rfl ?_
 intro b5
 refine la 1 ((4, .bool false) :: _) rfl <| nn <| cm_seq <| cm_cutE [(4, .bool ((decide (p0.When.From ≤ p1)) && (decide (p1 < p0.When.To))))] ?_ ?_
 ·refine q_ 5 (fun _ _ => oF 2 2 rfl) <| q_ 6 (fun _ _ => oF 0 2 rfl) <| q_ 7 (fun _ c1 => oL (c1.cell 0 (u := .int .i64 _) rfl rfl)) <| qa 1 ((8, .int .i64 _) :: _) rfl <| qd 9 (fun _ _ => op_leq rfl rfl) (fun h6 => ?_) (fun h6 => ?_)
  ·refine qa 2 ((11, .int .i64 _) :: (10, .bool true) :: _) rfl <| q_ 12 (fun _ _ => oF 2 2 rfl) <| q_ 13 (fun _ _ => oF 1 3 rfl) <| q_ 14 (fun _ c1 => oL (c1.cell 0 (u := .int .i64 _) rfl rfl)) <| qa 3 ((4, .bool _) :: (16, .bool _) :: (15, .bool _) :: _) rfl ?_
   exact leaf_q (sub_out 13 _ rfl (by kernel_rfl) ⟨(congrArg Value.bool (by rw [decide_eq_true h6] <;> rfl)), trivial⟩)
  ·refine qa 8 ((4, .bool false) :: (16, .bool false) :: (15, undef) :: (14, undef) :: (13, undef) :: (12, undef) :: (11, undef) :: (10, .bool false) :: _) rfl ?_
   exact leaf_q (sub_out 13 _ rfl (by kernel_rfl) ⟨(congrArg Value.bool (by rw [decide_eq_false h6] <;> rfl)), trivial⟩)
 refine xm_next <| cm_ret ?_
 exact xm_retT rfl (by kernel_rfl) (show _ = Value.bool _ from rfl) fun w1 c1 => ⟨(), rfl, hsub [] (by kernel_rfl) rfl w1 c1⟩
/-- recyclingref14.Owner -/
def m_recyclingref14_Owner (N : Nat) (p0 : (List ApiAssign)) (p1 : Int) (p2 : Int) : Option (Int × Bool) :=
 (andThen
  (loopM (fun (a : Int) =>
   (if a < (List.length p0 : Int) then
    ck ((0 : Int) ≤ a ∧ a < (List.length p0 : Int)) (
     ck (decide ((ix p0 a).Container = p1) = true → (0 : Int) ≤ a ∧ a < (List.length p0 : Int)) (
      callIf (decide ((ix p0 a).Container = p1) = true) (m_recyclingref14_Covers N (ix p0 a) p2) fun b => (if ((decide ((ix p0 a).Container = p1)) && b) = true then
       ck ((0 : Int) ≤ a ∧ a < (List.length p0 : Int)) (
        some (.done (.done (((ix p0 a).Household, true)))))
      else
       ck (I64 (a + (1 : Int))) (
        some (.next (a + (1 : Int)))))))
   else
    some (.done (.next ())))) N (0 : Int))
 fun (_s38 : Unit) =>
  some (((0 : Int), false)))
set_option maxRecDepth 20000 in
theorem m_recyclingref14_Owner_ok (N : Nat) (w0 : World) (p0 : (List ApiAssign)) (p1 : Int) (p2 : Int) (f : Option Addr) (o : Nat) (q : Nat) (b : RdE w0 4 encApiAssign f p0) (e : SW f o q (List.length p0)) (r : Int × Bool) (hr : m_recyclingref14_Owner N p0 p1 p2 = some r) :
  Ret Tryz.prog 104 [.slice f o q, .int .i64 p1, .int .i64 p2] w0 (fun (r : Int × Bool) (_u : Unit) => .tuple #[.int .i64 r.1, .bool r.2]) (fun (_r : Int × Bool) (_u : Unit) => []) r := by
 refine calls_v (n := 35) r hr Tryz.func104 ?_
 unfold m_recyclingref14_Owner
 refine sr <| la 2 ((7, .bool false) :: (6, .int .i64 _) :: _) rfl <| nn <| cm_join (σ := Unit) (ξ := Unit) (fun t x => []) (fun t x => []) ?_ ?_
 ·refine sr <| la 1 ((8, .int .i64 _) :: _) rfl <| nn <| cm_block <| cm_loop (σ := Int) (ξ := Unit) (fun a y => [(0, .slice f o q), (1, .int .i64 p1), (2, .int .i64 p2), (8, .int .i64 a)]) (fun a y => []) () ?_ ?_ ?_
  ·exact sq
  ·exact sh []
  intro a y
  refine cm_seq <| sr <| la 2 ((10, .slice _ _ _) :: (9, .int .i64 _) :: _) rfl <| v_ 11 (fun _ _ => op_lenN rfl (by kernel_rfl) e.2.2) <| la 1 ((12, .bool _) :: _) rfl <| nn <| cm_cond (by kernel_rfl) rfl (fun B => ?_) (fun B => ?_)
  ·refine sk <| cm_seq <| cm_block <| cm_seq <| cm_ck (fun g => ?_)
   refine cm_ck (fun i => ?_)
   refine cm_callIf fun z C => cm_cutE [(29, .bool ((decide ((ix p0 a).Container = p1)) && z))] ?_ ?_
   ·refine qa 2 ((16, .int .i64 _) :: (15, .slice _ _ _) :: _) rfl <| q_ 17 (fun _ c1 => oI 4 rfl rfl ((b.old c1).addr g.1 g.2) e.2.2 g) <| q_ 18 (fun _ _ => op_field0 rfl (by kernel_rfl)) <| q_ 19 (fun _ c1 => oL (v := .int .i64 ((ix p0 a).Container)) ((b.old c1).cell0 g.1 g.2 rfl)) <| qa 1 ((20, .int .i64 _) :: _) rfl <| qd 21 (fun _ _ => op_eql rfl rfl) (fun d => ?_) (fun d => ?_)
    ·refine qa 3 ((24, .int .i64 _) :: (23, .slice _ _ _) :: (22, .bool true) :: _) rfl <| q_ 25 (fun _ c1 => oI 4 rfl rfl ((b.old c1).addr (i (by rw [decide_eq_true d] <;> rfl)).1 (i (by rw [decide_eq_true d] <;> rfl)).2) e.2.2 (i (by rw [decide_eq_true d] <;> rfl))) <| q_ 26 (fun _ c1 => oR [.int .i64 ((ix p0 a).Container), .int .i64 ((ix p0 a).Household), .int .i64 ((ix p0 a).When.From), .int .i64 ((ix p0 a).When.To)] ((b.old c1).row (i (by rw [decide_eq_true d] <;> rfl)).1 (i (by rw [decide_eq_true d] <;> rfl)).2)) <| qa 1 ((27, .int .i64 _) :: _) rfl <| wq_call 28 (by kernel_rfl) (fun w1 c1 => op_call (by kernel_rfl)) (fun w1 c1 => (m_recyclingref14_Covers_ok N w1 (ix p0 a) p2  z (C (by rw [decide_eq_true d] <;> rfl))).mono (fun _ _ ⟨_, hx, hu⟩ => ⟨hx, c1.call hu⟩)) <| qa 1 ((29, .bool _) :: _) rfl ?_
     exact leaf_q (sub_out 15 _ rfl (by kernel_rfl) ⟨(congrArg Value.bool (by rw [decide_eq_true d] <;> rfl)), trivial⟩)
    ·refine qa 8 ((29, .bool false) :: (28, undef) :: (27, undef) :: (26, undef) :: (25, undef) :: (24, undef) :: (23, undef) :: (22, .bool false) :: _) rfl ?_
     exact leaf_q (sub_out 15 _ rfl (by kernel_rfl) ⟨(congrArg Value.bool (by rw [decide_eq_false d] <;> rfl)), trivial⟩)
   refine xm_next <| cm_condB (by kernel_rfl) rfl (fun G => ?_) (fun G => ?_)
   ·refine sr <| la 2 ((31, .int .i64 _) :: (30, .slice _ _ _) :: _) rfl <| lm_ck (fun l => ?_)
    refine v_ 32 (fun _ c1 => oI 4 rfl rfl ((b.old c1).addr l.1 l.2) e.2.2 l) <| v_ 33 (fun _ _ => op_field (m := 1) rfl (by kernel_rfl)) <| v_ 34 (fun _ c1 => oL (v := .int .i64 ((ix p0 a).Household)) ((b.old c1).cell (j := 1) l.1 l.2 rfl)) <| la 2 ((7, .bool true) :: (6, .int .i64 _) :: _) rfl <| nn <| cm_ret <| xm_inR <| xm_thenR <| xm_lret <| xm_inR <| xm_lret ?_
    exact xm_retTT rfl (by kernel_rfl) (show _ = Value.int .i64 _ from rfl) (by kernel_rfl) (show _ = Value.bool true from rfl) fun w1 c1 => ⟨(), rfl, hsub [] (by kernel_rfl) rfl w1 c1⟩
   ·refine cm_skip <| xm_inN <| xm_next <| cm_region <| la 1 ((13, .int .i64 _) :: _) rfl <| lm_ck (fun J => ?_)
    refine v_ 14 (fun _ _ => op_add rfl rfl J) <| la 1 ((8, .int .i64 _) :: _) rfl <| lm_nil ?_
    exact xm_lnext () sq (sh [])
  ·refine cm_exit <| xm_thenE <| xm_lexit <| xm_here ?_
   exact xm_lnext () sub_nil (sh [])
 intro t x
 refine sr <| la 2 ((7, .bool false) :: (6, .int .i64 _) :: _) rfl <| nn <| cm_ret ?_
 exact xm_retTT rfl (by kernel_rfl) (show _ = Value.int .i64 _ from rfl) (by kernel_rfl) (show _ = Value.bool false from rfl) fun w1 c1 => ⟨(), rfl, hsub [] (by kernel_rfl) rfl w1 c1⟩
/-- recyclingref59.belongs -/
def m_recyclingref59_belongs (N : Nat) (p0 : ApiAccount) (p1 : ApiBill) (p2 : Int) : Option (Bool) :=
 Option.bind (m_recyclingref59_record N p0.Emptyings p2) fun r7 => ck ((!(!r7.2)) = true → I64 (p1.When.From * (86400 : Int))) (
  ck ((!((!r7.2) || (decide (r7.1.At < (p1.When.From * (86400 : Int)))))) = true → I64 (p1.When.To * (86400 : Int))) (
   (if (((!r7.2) || (decide (r7.1.At < (p1.When.From * (86400 : Int))))) || (decide ((p1.When.To * (86400 : Int)) ≤ r7.1.At))) = true then
    some (false)
   else
    Option.bind (m_recyclingref14_Owner N p0.Assigns r7.1.Container r7.1.At) fun a => some ((a.2 && (decide (a.1 = p1.Household)))))))
set_option maxHeartbeats 2000000 in
set_option maxRecDepth 20000 in
theorem m_recyclingref59_belongs_ok (N : Nat) (w0 : World) (p0 : ApiAccount) (p1 : ApiBill) (p2 : Int) (e : Option Addr) (q : Nat) (t : Nat) (f : Option Addr) (x : Nat) (y : Nat) (a : Option Addr) (g : Nat) (i : Nat) (b : Option Addr) (j : Nat) (l : Nat) (m : Option Addr) (z : Nat) (B : Nat) (o : Option Addr) (C : Nat) (G : Nat) (_hr_p01 : RdE w0 2 encApiHousehold e p0.Households) (_hz_p01 : SW e q t (List.length p0.Households)) (_hr_p02 : RdE w0 5 encApiContainer f p0.Containers) (_hz_p02 : SW f x y (List.length p0.Containers)) (K : RdE w0 4 encApiAssign a p0.Assigns) (L : SW a g i (List.length p0.Assigns)) (M : RdE w0 7 encApiEmptying b p0.Emptyings) (O : SW b j l (List.length p0.Emptyings)) (_hr_p05 : RdE w0 5 encApiTariff m p0.Tariffs) (_hz_p05 : SW m z B (List.length p0.Tariffs)) (_hr_p11 : RdE w0 5 encApiItem o p1.Items) (_hz_p11 : SW o C G (List.length p1.Items)) (r : Bool) (hr : m_recyclingref59_belongs N p0 p1 p2 = some r) :
  Ret Tryz.prog 51 [.agg #[.slice e q t, .slice f x y, .slice a g i, .slice b j l, .slice m z B, .int .i64 p0.Gap], .agg #[.int .i64 p1.ID, .int .i64 p1.Household, .int .i64 p1.When.From, .int .i64 p1.When.To, .slice o C G, .int .i64 p1.Total], .int .i64 p2] w0 (fun (r : Bool) (_u : Unit) => .bool r) (fun (_r : Bool) (_u : Unit) => []) r := by
 refine calls_v (n := 55) r hr Tryz.func51 ?_
 unfold m_recyclingref59_belongs
 refine sr <| lm_box 3 [.slice _ _ _, .slice _ _ _, .slice _ _ _, .slice _ _ _, .slice _ _ _, .int .i64 _] (by kernel_rfl) rfl ?_
 intro b5
 refine lm_box 4 [.int .i64 _, .int .i64 _, .int .i64 _, .int .i64 _, .slice _ _ _, .int .i64 _] (by kernel_rfl) rfl ?_
 intro b6
 refine la 1 ((6, .bool false) :: _) rfl <| nn <| sr <| v_ 12 (fun _ _ => oF 3 3 rfl) <| v_ 13 (fun _ c1 => oL (c1.cell 1 (u := .slice _ _ _) rfl rfl)) <| la 1 ((14, .int .i64 _) :: _) rfl <| lm_call 15 (V := (fun (r : ApiEmptying × Bool) (_u : Unit) => .tuple #[.agg #[.int .i64 r.1.ID, .int .i64 r.1.Container, .int .i64 r.1.Vehicle, .int .i64 r.1.At, .int .i64 r.1.Mass.Lo, .int .i64 r.1.Mass.Hi, .bool r.1.Void], .bool r.2])) (HR := (fun (_r : ApiEmptying × Bool) (_u : Unit) => [])) (by kernel_rfl) (fun w1 => op_call (by kernel_rfl)) (fun r1 hr1 w1 c1 => m_recyclingref59_record_ok N w1 p0.Emptyings p2 b j l (M.old c1) O r1 hr1) ?_
 intro r7 u8
 refine la 3 ((17, .bool _) :: (16, .agg _) :: (11, .tuple _) :: _) rfl <| lm_alloc 7 [.int .i64 0, .int .i64 0, .int .i64 0, .int .i64 0, .int .i64 0, .int .i64 0, .bool false] (v := .agg #[.int .i64 0, .int .i64 0, .int .i64 0, .int .i64 0, .int .i64 0, .int .i64 0, .bool false]) (by kernel_rfl) (by kernel_rfl) rfl ?_
 intro b9
 refine lm_storeA 0 [.int .i64 _, .int .i64 _, .int .i64 _, .int .i64 _, .int .i64 _, .int .i64 _, .bool _] [_, _, _, _, _, _, _] (H' := [blkE _ _ [_, _, _, _, _, _, _], _, _]) (by kernel_rfl) rfl rfl (by kernel_rfl) rfl rfl (by kernel_rfl) rfl rfl <| la 1 ((8, .bool _) :: _) rfl <| nn <| cm_seq <| cm_seq <| cm_ck (fun X => ?_)
 refine cm_ck (fun Y => ?_)
 refine cm_cutE [(37, .bool (((!r7.2) || (decide (r7.1.At < (p1.When.From * (86400 : Int))))) || (decide ((p1.When.To * (86400 : Int)) ≤ r7.1.At))))] ?_ ?_
 ·refine wq_bool 18 (by kernel_rfl) (fun w1 c1 => (op_move (v := .bool _) rfl)) (fun d => ?_) (fun d => ?_)
  ·refine qa 2 ((20, .bool false) :: (19, .bool false) :: _) rfl <| q_ 21 (fun _ _ => oF 3 3 rfl) <| q_ 22 (fun _ c1 => oL (c1.cell 0 (u := .int .i64 _) rfl rfl)) <| q_ 23 (fun _ _ => oF 2 2 rfl) <| q_ 24 (fun _ _ => oF 0 2 rfl) <| q_ 25 (fun _ c1 => oL (c1.cell 1 (u := .int .i64 _) rfl rfl)) <| q_ 26 (fun _ _ => op_mul rfl rfl (X (by rw [d] <;> rfl))) <| qd 27 (fun _ _ => op_lss rfl rfl) (fun J => ?_) (fun J => ?_)
   ·refine qa 10 ((37, .bool true) :: (36, undef) :: (35, undef) :: (34, undef) :: (33, undef) :: (32, undef) :: (31, undef) :: (30, undef) :: (29, .bool true) :: (28, .bool true) :: _) rfl ?_
    exact leaf_q (sub_out 20 _ rfl (by kernel_rfl) ⟨(congrArg Value.bool (by rw [d, decide_eq_true J] <;> rfl)), trivial⟩)
   ·refine qa 2 ((29, .bool false) :: (28, .bool false) :: _) rfl <| q_ 30 (fun _ _ => oF 3 3 rfl) <| q_ 31 (fun _ c1 => oL (c1.cell 0 (u := .int .i64 _) rfl rfl)) <| q_ 32 (fun _ _ => oF 2 2 rfl) <| q_ 33 (fun _ _ => oF 1 3 rfl) <| q_ 34 (fun _ c1 => oL (c1.cell 1 (u := .int .i64 _) rfl rfl)) <| q_ 35 (fun _ _ => op_mul rfl rfl (Y (by rw [d, decide_eq_false J] <;> rfl))) <| qa 2 ((37, .bool _) :: (36, .bool _) :: _) rfl ?_
    exact leaf_q (sub_out 20 _ rfl (by kernel_rfl) ⟨(congrArg Value.bool (by rw [d, decide_eq_false J] <;> rfl)), trivial⟩)
  ·refine qa 19 ((37, .bool true) :: (36, undef) :: (35, undef) :: (34, undef) :: (33, undef) :: (32, undef) :: (31, undef) :: (30, undef) :: (29, .bool true) :: (28, .bool true) :: (27, undef) :: (26, undef) :: (25, undef) :: (24, undef) :: (23, undef) :: (22, undef) :: (21, undef) :: (20, .bool true) :: (19, .bool true) :: _) rfl ?_
   exact leaf_q (sub_out 20 _ rfl (by kernel_rfl) ⟨(congrArg Value.bool (by rw [d] <;> rfl)), trivial⟩)
 refine xm_next <| cm_condB (by kernel_rfl) rfl (fun Z => ?_) (fun Z => ?_)
 ·refine sr <| la 1 ((6, .bool false) :: _) rfl <| nn <| cm_ret <| xm_thenR ?_
  exact xm_retT rfl (by kernel_rfl) (show _ = Value.bool false from rfl) fun w1 c1 => ⟨(), rfl, hsub [] (by kernel_rfl) rfl w1 c1⟩
 ·refine sk <| sr <| v_ 39 (fun _ _ => oF 2 2 rfl) <| v_ 40 (fun _ c1 => oL (c1.cell 2 (u := .slice _ _ _) rfl rfl)) <| v_ 41 (fun _ _ => oF 1 1 rfl) <| v_ 42 (fun _ c1 => oL (c1.cell 0 (u := .int .i64 _) rfl rfl)) <| v_ 43 (fun _ _ => oF 3 3 rfl) <| v_ 44 (fun _ c1 => oL (c1.cell 0 (u := .int .i64 _) rfl rfl)) <| lm_call 45 (V := (fun (r : Int × Bool) (_u : Unit) => .tuple #[.int .i64 r.1, .bool r.2])) (HR := (fun (_r : Int × Bool) (_u : Unit) => [])) (by kernel_rfl) (fun w1 => op_call (by kernel_rfl)) (fun r1 hr1 w1 c1 => m_recyclingref14_Owner_ok N w1 p0.Assigns r7.1.Container r7.1.At a g i (K.old c1) L r1 hr1) ?_
  intro U a0
  refine la 5 ((10, .bool _) :: (9, .int .i64 _) :: (47, .bool _) :: (46, .int .i64 _) :: (38, .tuple _) :: _) rfl <| nn <| cm_seq <| cm_cutE [(6, .bool (U.2 && (decide (U.1 = p1.Household))))] ?_ ?_
  ·refine wq_bool 48 (by kernel_rfl) (fun w1 c1 => (op_move (v := .bool _) rfl)) (fun Q => ?_) (fun Q => ?_)
   ·refine qa 2 ((50, .int .i64 _) :: (49, .bool true) :: _) rfl <| q_ 51 (fun _ _ => oF 1 1 rfl) <| q_ 52 (fun _ c1 => oL (c1.cell 1 (u := .int .i64 _) rfl rfl)) <| qa 3 ((6, .bool _) :: (54, .bool _) :: (53, .bool _) :: _) rfl ?_
    exact leaf_q (sub_out 8 _ rfl (by kernel_rfl) ⟨(congrArg Value.bool (by rw [Q] <;> rfl)), trivial⟩)
   ·refine qa 7 ((6, .bool false) :: (54, .bool false) :: (53, undef) :: (52, undef) :: (51, undef) :: (50, undef) :: (49, .bool false) :: _) rfl ?_
    exact leaf_q (sub_out 8 _ rfl (by kernel_rfl) ⟨(congrArg Value.bool (by rw [Q] <;> rfl)), trivial⟩)
  refine xm_next <| cm_ret ?_
  exact xm_retT rfl (by kernel_rfl) (show _ = Value.bool _ from rfl) fun w1 c1 => ⟨(), rfl, hsub [] (by kernel_rfl) rfl w1 c1⟩
/-- recyclingref59.itemRight -/
def m_recyclingref59_itemRight (N : Nat) (p0 : ApiAccount) (p1 : ApiBill) (p2 : ApiItem) : Option (Bool) :=
 (if p2.Kind = 1 then
  Option.bind (m_recyclingref53_Base N p0.Tariffs p1.When) fun r9 => Option.bind (m_recyclingref59_has N r9.1 p2) fun d => some (d)
 else
  (if p2.Kind = 4 then
   some ((decide (p2.Amount < 0)))
  else
   (if ((decide (p2.Kind ≠ 2)) && (decide (p2.Kind ≠ 3))) = true then
    some (false)
   else
    Option.bind (m_recyclingref59_belongs N p0 p1 p2.Ref) fun e => (if (!e) = true then
     some (false)
    else
     Option.bind (m_recyclingref59_record N p0.Emptyings p2.Ref) fun b => ck (I64 b.1.At) (
      Option.bind (m_recyclingref53_At N p0.Tariffs (Int.tdiv b.1.At 86400)) fun a => (if a.2 ≠ 0 then
       some (false)
      else
       ck ((0 : Int) ≤ a.1 ∧ a.1 < (List.length p0.Tariffs : Int)) (
        Option.bind (m_recyclingref53_Items N (ix p0.Tariffs a.1) b.1) fun f => Option.bind (m_recyclingref59_has N f.1 p2) fun g => some (g))))))))
set_option maxHeartbeats 2000000 in
set_option maxRecDepth 20000 in
theorem m_recyclingref59_itemRight_ok (N : Nat) (w0 : World) (p0 : ApiAccount) (p1 : ApiBill) (p2 : ApiItem) (j : Option Addr) (z : Nat) (B : Nat) (l : Option Addr) (C : Nat) (G : Nat) (o : Option Addr) (J : Nat) (K : Nat) (d : Option Addr) (q : Nat) (t : Nat) (b : Option Addr) (e : Nat) (f : Nat) (y : Option Addr) (L : Nat) (M : Nat) (a3 : RdE w0 2 encApiHousehold j p0.Households) (a4 : SW j z B (List.length p0.Households)) (a5 : RdE w0 5 encApiContainer l p0.Containers) (a6 : SW l C G (List.length p0.Containers)) (a7 : RdE w0 4 encApiAssign o p0.Assigns) (a8 : SW o J K (List.length p0.Assigns)) (a0 : RdE w0 7 encApiEmptying d p0.Emptyings) (a1 : SW d q t (List.length p0.Emptyings)) (g : RdE w0 5 encApiTariff b p0.Tariffs) (O : SW b e f (List.length p0.Tariffs)) (a9 : RdE w0 5 encApiItem y p1.Items) (aa : SW y L M (List.length p1.Items)) (r : Bool) (hr : m_recyclingref59_itemRight N p0 p1 p2 = some r) :
  Ret Tryz.prog 47 [.agg #[.slice j z B, .slice l C G, .slice o J K, .slice d q t, .slice b e f, .int .i64 p0.Gap], .agg #[.int .i64 p1.ID, .int .i64 p1.Household, .int .i64 p1.When.From, .int .i64 p1.When.To, .slice y L M, .int .i64 p1.Total], .agg #[.int .i64 p2.Kind, .int .i64 p2.Ref, .int .i64 p2.Count, .int .i64 p2.Price, .int .i64 p2.Amount]] w0 (fun (r : Bool) (_u : Unit) => .bool r) (fun (_r : Bool) (_u : Unit) => []) r := by
 refine calls_v (n := 81) r hr Tryz.func47 ?_
 unfold m_recyclingref59_itemRight
 refine sr <| lm_box 3 [.slice _ _ _, .slice _ _ _, .slice _ _ _, .slice _ _ _, .slice _ _ _, .int .i64 _] (by kernel_rfl) rfl ?_
 intro b5
 refine lm_box 4 [.int .i64 _, .int .i64 _, .int .i64 _, .int .i64 _, .slice _ _ _, .int .i64 _] (by kernel_rfl) rfl ?_
 intro b6
 refine lm_box 5 [.int .i64 _, .int .i64 _, .int .i64 _, .int .i64 _, .int .i64 _] (by kernel_rfl) rfl ?_
 intro b7
 refine la 1 ((6, .bool false) :: _) rfl <| nn <| cm_seq <| sr <| v_ 15 (fun _ _ => oF 0 0 rfl) <| v_ 16 (fun _ c1 => oL (c1.cell 0 (u := .int .i64 _) rfl rfl)) <| la 1 ((17, .bool _) :: _) rfl <| nn <| cm_cond (by kernel_rfl) rfl (fun h8 => ?_) (fun h8 => ?_)
 ·refine sr <| v_ 19 (fun _ _ => oF 4 4 rfl) <| v_ 20 (fun _ c1 => oL (c1.cell 2 (u := .slice _ _ _) rfl rfl)) <| v_ 21 (fun _ _ => oF 2 2 rfl) <| v_ 22 (fun _ c1 => oR [.int .i64 _, .int .i64 _] (c1.cells 1 rfl rfl)) <| lm_call 23 (V := (fun (r : (List ApiItem) × Int) (u : (Option Addr) × Nat × Nat) => .tuple #[.slice u.1 u.2.1 u.2.2, .int .i64 r.2])) (HR := (fun (r : (List ApiItem) × Int) (u : (Option Addr) × Nat × Nat) => [ownE 100 5 encApiItem u.1 u.2.1 u.2.2 r.1])) (by kernel_rfl) (fun w1 => op_call (by kernel_rfl)) (fun r1 hr1 w1 c1 => m_recyclingref53_Base_ok N w1 p0.Tariffs p1.When b e f (g.old c1) O r1 hr1) ?_
  intro r9 ab
  refine la 5 ((8, .int .i64 _) :: (7, .slice _ _ _) :: (25, .int .i64 _) :: (24, .slice _ _ _) :: (18, .tuple _) :: _) rfl <| nn <| sr <| la 1 ((26, .slice _ _ _) :: _) rfl <| v_ 27 (fun _ c1 => oR [.int .i64 _, .int .i64 _, .int .i64 _, .int .i64 _, .int .i64 _] (c1.cells 1 rfl rfl)) <| lm_call 28 (V := (fun (r : Bool) (_u : Unit) => .bool r)) (HR := (fun (_r : Bool) (_u : Unit) => [])) (by kernel_rfl) (fun w1 => op_call (by kernel_rfl)) (fun r1 hr1 w1 c1 => m_recyclingref59_has_ok N w1 r9.1 p2 ab.1 ab.2.1 ab.2.2 (c1.own 0 rfl encApiItem_len) (c1.ownZ 0 rfl) r1 hr1) ?_
  intro ak al
  refine la 1 ((6, .bool _) :: _) rfl <| nn <| cm_ret <| xm_thenR ?_
  exact xm_retT rfl (by kernel_rfl) (show _ = Value.bool _ from rfl) fun w1 c1 => ⟨(), rfl, hsub [] (by kernel_rfl) rfl w1 c1⟩
 ·refine sk <| cm_seq <| sr <| v_ 29 (fun _ _ => oF 0 0 rfl) <| v_ 30 (fun _ c1 => oL (c1.cell 0 (u := .int .i64 _) rfl rfl)) <| la 1 ((31, .bool _) :: _) rfl <| nn <| cm_cond (by kernel_rfl) rfl (fun ae => ?_) (fun ae => ?_)
  ·refine sr <| v_ 32 (fun _ _ => oF 4 4 rfl) <| v_ 33 (fun _ c1 => oL (c1.cell 0 (u := .int .i64 _) rfl rfl)) <| la 2 ((6, .bool _) :: (34, .bool _) :: _) rfl <| nn <| cm_ret <| xm_thenR ?_
   exact xm_retT rfl (by kernel_rfl) (show _ = Value.bool _ from rfl) fun w1 c1 => ⟨(), rfl, hsub [] (by kernel_rfl) rfl w1 c1⟩
  ·refine sk <| cm_seq <| cm_seq <| cm_cutE [(42, .bool ((decide (p2.Kind ≠ 2)) && (decide (p2.Kind ≠ 3))))] ?_ ?_
   ·refine q_ 35 (fun _ _ => oF 0 0 rfl) <| q_ 36 (fun _ c1 => oL (c1.cell 0 (u := .int .i64 _) rfl rfl)) <| qd 37 (fun _ _ => op_neq rfl rfl) (fun ac => ?_) (fun ac => ?_)
    ·refine qa 1 ((38, .bool true) :: _) rfl <| q_ 39 (fun _ _ => oF 0 0 rfl) <| q_ 40 (fun _ c1 => oL (c1.cell 0 (u := .int .i64 _) rfl rfl)) <| qa 2 ((42, .bool _) :: (41, .bool _) :: _) rfl ?_
     exact leaf_q (sub_out 8 _ rfl (by kernel_rfl) ⟨(congrArg Value.bool (by rw [decide_eq_true ac] <;> rfl)), trivial⟩)
    ·refine qa 5 ((42, .bool false) :: (41, undef) :: (40, undef) :: (39, undef) :: (38, .bool false) :: _) rfl ?_
     exact leaf_q (sub_out 8 _ rfl (by kernel_rfl) ⟨(congrArg Value.bool (by rw [decide_eq_false ac] <;> rfl)), trivial⟩)
   refine xm_next <| cm_condB (by kernel_rfl) rfl (fun af => ?_) (fun af => ?_)
   ·refine sr <| la 1 ((6, .bool false) :: _) rfl <| nn <| cm_ret <| xm_thenR ?_
    exact xm_retT rfl (by kernel_rfl) (show _ = Value.bool false from rfl) fun w1 c1 => ⟨(), rfl, hsub [] (by kernel_rfl) rfl w1 c1⟩
   ·refine sk <| cm_seq <| sr <| v_ 43 (fun _ c1 => oR [.slice _ _ _, .slice _ _ _, .slice _ _ _, .slice _ _ _, .slice _ _ _, .int .i64 _] (c1.cells 2 rfl rfl)) <| v_ 44 (fun _ c1 => oR [.int .i64 _, .int .i64 _, .int .i64 _, .int .i64 _, .slice _ _ _, .int .i64 _] (c1.cells 1 rfl rfl)) <| v_ 45 (fun _ _ => oF 1 1 rfl) <| v_ 46 (fun _ c1 => oL (c1.cell 0 (u := .int .i64 _) rfl rfl)) <| lm_call 47 (V := (fun (r : Bool) (_u : Unit) => .bool r)) (HR := (fun (_r : Bool) (_u : Unit) => [])) (by kernel_rfl) (fun w1 => op_call (by kernel_rfl)) (fun r1 hr1 w1 c1 => m_recyclingref59_belongs_ok N w1 p0 p1 p2.Ref j z B l C G o J K d q t b e f y L M (a3.old c1) a4 (a5.old c1) a6 (a7.old c1) a8 (a0.old c1) a1 (g.old c1) O (a9.old c1) aa r1 hr1) ?_
    intro am an
    refine la 1 ((48, .bool _) :: _) rfl <| nn <| cm_condB (by kernel_rfl) rfl (fun ag => ?_) (fun ag => ?_)
    ·refine sr <| la 1 ((6, .bool false) :: _) rfl <| nn <| cm_ret <| xm_thenR ?_
     exact xm_retT rfl (by kernel_rfl) (show _ = Value.bool false from rfl) fun w1 c1 => ⟨(), rfl, hsub [] (by kernel_rfl) rfl w1 c1⟩
    ·refine sk <| sr <| v_ 50 (fun _ _ => oF 3 3 rfl) <| v_ 51 (fun _ c1 => oL (c1.cell 2 (u := .slice _ _ _) rfl rfl)) <| v_ 52 (fun _ _ => oF 1 1 rfl) <| v_ 53 (fun _ c1 => oL (c1.cell 0 (u := .int .i64 _) rfl rfl)) <| lm_call 54 (V := (fun (r : ApiEmptying × Bool) (_u : Unit) => .tuple #[.agg #[.int .i64 r.1.ID, .int .i64 r.1.Container, .int .i64 r.1.Vehicle, .int .i64 r.1.At, .int .i64 r.1.Mass.Lo, .int .i64 r.1.Mass.Hi, .bool r.1.Void], .bool r.2])) (HR := (fun (_r : ApiEmptying × Bool) (_u : Unit) => [])) (by kernel_rfl) (fun w1 => op_call (by kernel_rfl)) (fun r1 hr1 w1 c1 => m_recyclingref59_record_ok N w1 p0.Emptyings p2.Ref d q t (a0.old c1) a1 r1 hr1) ?_
     intro a ao
     refine la 3 ((56, .bool _) :: (55, .agg _) :: (49, .tuple _) :: _) rfl <| lm_alloc 9 [.int .i64 0, .int .i64 0, .int .i64 0, .int .i64 0, .int .i64 0, .int .i64 0, .bool false] (v := .agg #[.int .i64 0, .int .i64 0, .int .i64 0, .int .i64 0, .int .i64 0, .int .i64 0, .bool false]) (by kernel_rfl) (by kernel_rfl) rfl ?_
     intro ad
     refine lm_storeA 0 [.int .i64 _, .int .i64 _, .int .i64 _, .int .i64 _, .int .i64 _, .int .i64 _, .bool _] [_, _, _, _, _, _, _] (H' := [blkE _ _ [_, _, _, _, _, _, _], _, _, _]) (by kernel_rfl) rfl rfl (by kernel_rfl) rfl rfl (by kernel_rfl) rfl rfl <| la 1 ((10, .bool _) :: _) rfl <| nn <| sr <| v_ 58 (fun _ _ => oF 4 4 rfl) <| v_ 59 (fun _ c1 => oL (c1.cell 3 (u := .slice _ _ _) rfl rfl)) <| v_ 60 (fun _ _ => oF 3 3 rfl) <| v_ 61 (fun _ c1 => oL (c1.cell 0 (u := .int .i64 _) rfl rfl)) <| lm_ck (fun ah => ?_)
     refine v_ 62 (fun _ _ => op_quoK rfl rfl (by kernel_rfl) ah) <| lm_call 63 (V := (fun (r : Int × Int) (_u : Unit) => .tuple #[.int .i64 r.1, .int .i64 r.2])) (HR := (fun (_r : Int × Int) (_u : Unit) => [])) (by kernel_rfl) (fun w1 => op_call (by kernel_rfl)) (fun r1 hr1 w1 c1 => m_recyclingref53_At_ok N w1 p0.Tariffs (Int.tdiv a.1.At 86400) b e f (g.old c1) O r1 hr1) ?_
     intro X ap
     refine la 5 ((12, .int .i64 _) :: (11, .int .i64 _) :: (65, .int .i64 _) :: (64, .int .i64 _) :: (57, .tuple _) :: _) rfl <| nn <| cm_seq <| sr <| la 2 ((67, .bool _) :: (66, .int .i64 _) :: _) rfl <| nn <| cm_cond (by kernel_rfl) rfl (fun ai => ?_) (fun ai => ?_)
     ·refine sr <| la 1 ((6, .bool false) :: _) rfl <| nn <| cm_ret <| xm_thenR ?_
      exact xm_retT rfl (by kernel_rfl) (show _ = Value.bool false from rfl) fun w1 c1 => ⟨(), rfl, hsub [] (by kernel_rfl) rfl w1 c1⟩
     ·refine sk <| cm_seq <| cm_ck (fun Y => ?_)
      refine cm_bind fun a2 aj => cm_held (ξ := (Option Addr) × Nat × Nat) (fun i => [(5, .pointer (some ⟨b7, 0, none⟩)), (13, .slice i.1 i.2.1 i.2.2)]) (fun i => [blkE b7 100 [.int .i64 p2.Kind, .int .i64 p2.Ref, .int .i64 p2.Count, .int .i64 p2.Price, .int .i64 p2.Amount], ownE 100 5 encApiItem i.1 i.2.1 i.2.2 a2.1]) [blkE ad 117 [.int .i64 a.1.ID, .int .i64 a.1.Container, .int .i64 a.1.Vehicle, .int .i64 a.1.At, .int .i64 a.1.Mass.Lo, .int .i64 a.1.Mass.Hi, .bool a.1.Void], blkE b7 100 [.int .i64 p2.Kind, .int .i64 p2.Ref, .int .i64 p2.Count, .int .i64 p2.Price, .int .i64 p2.Amount], blkE b6 52 [.int .i64 p1.ID, .int .i64 p1.Household, .int .i64 p1.When.From, .int .i64 p1.When.To, .slice y L M, .int .i64 p1.Total], blkE b5 28 [.slice j z B, .slice l C G, .slice o J K, .slice d q t, .slice b e f, .int .i64 p0.Gap]] 12 (by kernel_rfl) (by rfl) (hsub [0, 1, 2, 3] (by kernel_rfl) (by rfl)) ?_ ?_
      ·intro aq U
       refine wh_take 0 69 rfl (by kernel_rfl) (by kernel_rfl) (fun w2 c2 => (op_fieldL (m := 4) (k := 4) rfl (by kernel_rfl) rfl)) (hsub [0, 1, 2, 3] (by kernel_rfl) rfl _ U) <| wh_take 1 70 rfl (by kernel_rfl) (by kernel_rfl) (fun w2 c2 => (op_load rfl (by kernel_rfl) (c2.cell 3 (u := .slice _ _ _) rfl rfl))) (hsub [0, 1, 2, 3] (by kernel_rfl) rfl _ U) <| wh_take 2 71 rfl (by kernel_rfl) (by kernel_rfl) (fun w2 c2 => (op_move (v := .int .i64 _) rfl)) (hsub [0, 1, 2, 3] (by kernel_rfl) rfl _ U) <| wh_take 3 72 rfl (by kernel_rfl) (by kernel_rfl) (fun w2 c2 => (op_indexA 5 rfl rfl (by kernel_rfl) ((g.old c2).addr Y.1 Y.2) O.2.2 Y.1 Y.2)) (hsub [0, 1, 2, 3] (by kernel_rfl) rfl _ U) <| wh_take 4 73 rfl (by kernel_rfl) (by kernel_rfl) (fun w2 c2 => (op_loadR [.int .i64 ((ix p0.Tariffs X.1).From), .int .i64 ((ix p0.Tariffs X.1).Base), .int .i64 ((ix p0.Tariffs X.1).Empty), .int .i64 ((ix p0.Tariffs X.1).Kilo), .int .i64 ((ix p0.Tariffs X.1).Free)] rfl (by kernel_rfl) ((g.old c2).row Y.1 Y.2))) (hsub [0, 1, 2, 3] (by kernel_rfl) rfl _ U) <| wh_take 5 74 rfl (by kernel_rfl) (by kernel_rfl) (fun w2 c2 => (op_loadR [.int .i64 _, .int .i64 _, .int .i64 _, .int .i64 _, .int .i64 _, .int .i64 _, .bool _] rfl (by kernel_rfl) (c2.cells 0 rfl rfl))) (hsub [0, 1, 2, 3] (by kernel_rfl) rfl _ U) <| wh_ready [6] (by kernel_rfl) rfl ⟨?_, trivial⟩
       refine ws_call 75 rfl (by kernel_rfl) (op_call (by kernel_rfl)) (m_recyclingref53_Items_ok N _ (ix p0.Tariffs X.1) a.1  a2 aj) ?_
       rintro x ar ⟨Z, rfl, Q⟩
       replace Q := U.call Q
       refine ⟨_, rfl, (hsub [1, 2, 3, 4] (by kernel_rfl) rfl _ Q), ?_⟩
       refine wh_strong (Hs w0 [ownE 100 5 encApiItem Z.1 Z.2.1 Z.2.2 a2.1, blkE ad 117 [.int .i64 a.1.ID, .int .i64 a.1.Container, .int .i64 a.1.Vehicle, .int .i64 a.1.At, .int .i64 a.1.Mass.Lo, .int .i64 a.1.Mass.Hi, .bool a.1.Void], blkE b7 100 [.int .i64 p2.Kind, .int .i64 p2.Ref, .int .i64 p2.Count, .int .i64 p2.Price, .int .i64 p2.Amount], blkE b6 52 [.int .i64 p1.ID, .int .i64 p1.Household, .int .i64 p1.When.From, .int .i64 p1.When.To, .slice y L M, .int .i64 p1.Total], blkE b5 28 [.slice j z B, .slice l C G, .slice o J K, .slice d q t, .slice b e f, .int .i64 p0.Gap]]) (fun w2 c2 => hsub [1, 2, 3, 4] (by kernel_rfl) rfl w2 c2) <| wh_take 7 68 rfl (by kernel_rfl) (by kernel_rfl) (fun w2 c2 => (op_move (v := .tuple _) rfl)) (hsub [0, 1, 2, 3, 4] (by kernel_rfl) rfl _ Q) <| wh_take 8 76 rfl (by kernel_rfl) (by kernel_rfl) (fun w2 c2 => (op_extract (v := .slice _ _ _) rfl rfl)) (hsub [0, 1, 2, 3, 4] (by kernel_rfl) rfl _ Q) <| wh_take 9 77 rfl (by kernel_rfl) (by kernel_rfl) (fun w2 c2 => (op_extract (v := .int .i64 _) rfl rfl)) (hsub [0, 1, 2, 3, 4] (by kernel_rfl) rfl _ Q) <| wh_take 10 13 rfl (by kernel_rfl) (by kernel_rfl) (fun w2 c2 => (op_assign (v := .slice _ _ _) rfl)) (hsub [0, 1, 2, 3, 4] (by kernel_rfl) rfl _ Q) <| wh_take 11 14 rfl (by kernel_rfl) (by kernel_rfl) (fun w2 c2 => (op_assign (v := .int .i64 _) rfl)) (hsub [0, 1, 2, 3, 4] (by kernel_rfl) rfl _ Q) ?_
       exact wh_done (Z.1, Z.2.1, Z.2.2) (by kernel_rfl) sq (hsub [2, 0] (by kernel_rfl) rfl _ Q)
      intro i
      refine xm_next <| sr <| la 1 ((78, .slice _ _ _) :: _) rfl <| v_ 79 (fun _ c1 => oR [.int .i64 _, .int .i64 _, .int .i64 _, .int .i64 _, .int .i64 _] (c1.cells 0 rfl rfl)) <| lm_call 80 (V := (fun (r : Bool) (_u : Unit) => .bool r)) (HR := (fun (_r : Bool) (_u : Unit) => [])) (by kernel_rfl) (fun w1 => op_call (by kernel_rfl)) (fun r1 hr1 w1 c1 => m_recyclingref59_has_ok N w1 a2.1 p2 i.1 i.2.1 i.2.2 (c1.own 1 rfl encApiItem_len) (c1.ownZ 1 rfl) r1 hr1) ?_
      intro au av
      refine la 1 ((6, .bool _) :: _) rfl <| nn <| cm_ret ?_
      exact xm_retT rfl (by kernel_rfl) (show _ = Value.bool _ from rfl) fun w1 c1 => ⟨(), rfl, hsub [] (by kernel_rfl) rfl w1 c1⟩
/-- recyclingref59.counting -/
def m_recyclingref59_counting (N : Nat) (p0 : ApiAccount) (p1 : ApiBill) : Option ((List Int)) :=
 ck (I64 (p1.When.From * (86400 : Int))) (
  ck (I64 (p1.When.To * (86400 : Int))) (
   Option.bind (m_recyclingref18_Of N p0.Emptyings p0.Assigns p1.Household (ApiWindow.mk (p1.When.From * (86400 : Int)) (p1.When.To * (86400 : Int))) p0.Gap) fun r9 => (andThen
    (loopM (fun (a : (List Int) × Int) =>
     (if a.2 < (List.length r9.1 : Int) then
      ck ((0 : Int) ≤ a.2 ∧ a.2 < (List.length r9.1 : Int)) (
       ck ((0 : Int) ≤ (ix r9.1 a.2) ∧ (ix r9.1 a.2) < (List.length p0.Emptyings : Int)) (
        ck ((List.length a.1 + List.length ([(ix p0.Emptyings (ix r9.1 a.2)).ID])) * 8 ≤ 140737488355328) (
         ck (I64 (a.2 + (1 : Int))) (
          some (.next ((a.1 ++ ([(ix p0.Emptyings (ix r9.1 a.2)).ID])), (a.2 + (1 : Int))))))))
     else
      some (.done (.next a.1)))) N (([] : List Int), (0 : Int)))
   fun (b : (List Int)) =>
    some (b))))
set_option maxHeartbeats 2000000 in
set_option maxRecDepth 20000 in
theorem m_recyclingref59_counting_ok (N : Nat) (w0 : World) (p0 : ApiAccount) (p1 : ApiBill) (l : Option Addr) (C : Nat) (G : Nat) (o : Option Addr) (J : Nat) (K : Nat) (i : Option Addr) (q : Nat) (t : Nat) (j : Option Addr) (x : Nat) (y : Nat) (B : Option Addr) (L : Nat) (M : Nat) (X : Option Addr) (a2 : Nat) (a3 : Nat) (_hr_p01 : RdE w0 2 encApiHousehold l p0.Households) (_hz_p01 : SW l C G (List.length p0.Households)) (_hr_p02 : RdE w0 5 encApiContainer o p0.Containers) (_hz_p02 : SW o J K (List.length p0.Containers)) (a4 : RdE w0 4 encApiAssign i p0.Assigns) (a5 : SW i q t (List.length p0.Assigns)) (U : RdE w0 7 encApiEmptying j p0.Emptyings) (Z : SW j x y (List.length p0.Emptyings)) (_hr_p05 : RdE w0 5 encApiTariff B p0.Tariffs) (_hz_p05 : SW B L M (List.length p0.Tariffs)) (_hr_p11 : RdE w0 5 encApiItem X p1.Items) (_hz_p11 : SW X a2 a3 (List.length p1.Items)) (r : (List Int)) (hr : m_recyclingref59_counting N p0 p1 = some r) :
  Ret Tryz.prog 49 [.agg #[.slice l C G, .slice o J K, .slice i q t, .slice j x y, .slice B L M, .int .i64 p0.Gap], .agg #[.int .i64 p1.ID, .int .i64 p1.Household, .int .i64 p1.When.From, .int .i64 p1.When.To, .slice X a2 a3, .int .i64 p1.Total]] w0 (fun (_r : (List Int)) (u : (Option Addr) × Nat × Nat) => .slice u.1 u.2.1 u.2.2) (fun (r : (List Int)) (u : (Option Addr) × Nat × Nat) => [ownE 3 1 encI u.1 u.2.1 u.2.2 r]) r := by
 refine calls_v (n := 50) r hr Tryz.func49 ?_
 unfold m_recyclingref59_counting
 refine sr <| lm_box 2 [.slice _ _ _, .slice _ _ _, .slice _ _ _, .slice _ _ _, .slice _ _ _, .int .i64 _] (by kernel_rfl) rfl ?_
 intro b5
 refine lm_box 3 [.int .i64 _, .int .i64 _, .int .i64 _, .int .i64 _, .slice _ _ _, .int .i64 _] (by kernel_rfl) rfl ?_
 intro b6
 refine la 1 ((4, .slice _ _ _) :: _) rfl <| nn <| sr <| v_ 10 (fun _ _ => oF 3 3 rfl) <| v_ 11 (fun _ c1 => oL (c1.cell 1 (u := .slice _ _ _) rfl rfl)) <| v_ 12 (fun _ _ => oF 2 2 rfl) <| v_ 13 (fun _ c1 => oL (c1.cell 1 (u := .slice _ _ _) rfl rfl)) <| v_ 14 (fun _ _ => oF 1 1 rfl) <| v_ 15 (fun _ c1 => oL (c1.cell 0 (u := .int .i64 _) rfl rfl)) <| v_ 16 (fun _ _ => oF 2 2 rfl) <| v_ 17 (fun _ _ => oF 0 2 rfl) <| v_ 18 (fun _ c1 => oL (c1.cell 0 (u := .int .i64 _) rfl rfl)) ?_
 refine lm_ck (fun h7 => ?_)
 refine v_ 19 (fun _ _ => op_mul rfl rfl h7) <| v_ 20 (fun _ _ => oF 2 2 rfl) <| v_ 21 (fun _ _ => oF 1 3 rfl) <| v_ 22 (fun _ c1 => oL (c1.cell 0 (u := .int .i64 _) rfl rfl)) <| lm_ck (fun h8 => ?_)
 refine v_ 23 (fun _ _ => op_mul rfl rfl h8) <| v_ 24 (fun _ _ => op_build (z := [.int .i64 0, .int .i64 0]) (tab := [(0, 1), (1, 1)]) (cs := [.int .i64 _, .int .i64 _]) [(0, [.int .i64 _]), (1, [.int .i64 _])] (by kernel_rfl) (by kernel_rfl) (fillOk_cons rfl rfl rfl (fillOk_cons rfl rfl rfl fillOk_nil)) rfl) <| v_ 25 (fun _ _ => oF 5 5 rfl) <| v_ 26 (fun _ c1 => oL (c1.cell 1 (u := .int .i64 _) rfl rfl)) <| lm_call 27 (V := (fun (r : (List Int) × Int) (u : (Option Addr) × Nat × Nat) => .tuple #[.slice u.1 u.2.1 u.2.2, .int .i64 r.2])) (HR := (fun (r : (List Int) × Int) (u : (Option Addr) × Nat × Nat) => [ownE 3 1 encI u.1 u.2.1 u.2.2 r.1])) (by kernel_rfl) (fun w1 => op_call (by kernel_rfl)) (fun r1 hr1 w1 c1 => m_recyclingref18_Of_ok N w1 p0.Emptyings p0.Assigns p1.Household (ApiWindow.mk (p1.When.From * (86400 : Int)) (p1.When.To * (86400 : Int))) p0.Gap j x y i q t (U.old c1) Z (a4.old c1) a5 r1 hr1) ?_
 intro r9 a
 refine la 5 ((6, .int .i64 _) :: (5, .slice _ _ _) :: (29, .int .i64 _) :: (28, .slice _ _ _) :: (9, .tuple _) :: _) rfl <| nn <| sr <| lm_slice0 30 (el := 3) (sz := 1) (bytes := 8) (enc := encI) (by kernel_rfl) (by kernel_rfl) ?_
 intro af ag ah al
 refine la 1 ((7, .slice _ _ _) :: _) rfl <| nn <| cm_join (σ := (List Int)) (ξ := (Option Addr) × Nat × Nat) (fun a0 d => [(7, .slice d.1 d.2.1 d.2.2)]) (fun a0 d => [ownE 3 1 encI d.1 d.2.1 d.2.2 a0]) ?_ ?_
 ·refine sr <| la 1 ((8, .int .i64 _) :: _) rfl <| nn <| cm_block <| cm_loop (σ := (List Int) × Int) (ξ := (Option Addr) × Nat × Nat) (fun b e => [(2, .pointer (some ⟨b5, 0, none⟩)), (5, .slice a.1 a.2.1 a.2.2), (7, .slice e.1 e.2.1 e.2.2), (8, .int .i64 b.2)]) (fun b e => [blkE b5 28 [.slice l C G, .slice o J K, .slice i q t, .slice j x y, .slice B L M, .int .i64 p0.Gap], ownE 3 1 encI a.1 a.2.1 a.2.2 r9.1, ownE 3 1 encI e.1 e.2.1 e.2.2 b.1]) (af, ag, ah) ?_ ?_ ?_
  ·exact sq
  ·exact sh [3, 1, 0]
  intro b e
  refine cm_seq <| sr <| la 2 ((32, .slice _ _ _) :: (31, .int .i64 _) :: _) rfl <| v_ 33 (fun _ c1 => op_lenN rfl (by kernel_rfl) (c1.ownZ 1 rfl).2.2) <| la 1 ((34, .bool _) :: _) rfl <| nn <| cm_cond (by kernel_rfl) rfl (fun a6 => ?_) (fun a6 => ?_)
  ·refine sk <| cm_seq <| cm_block <| cm_ck (fun O => ?_)
   refine cm_ck (fun Q => ?_)
   refine cm_ck (fun a7 => ?_)
   refine cm_of_then <| cm_held (ξ := (Option Addr) × Nat × Nat) (fun f => [(2, .pointer (some ⟨b5, 0, none⟩)), (5, .slice a.1 a.2.1 a.2.2), (7, .slice f.1 f.2.1 f.2.2), (8, .int .i64 b.2)]) (fun f => [blkE b5 28 [.slice l C G, .slice o J K, .slice i q t, .slice j x y, .slice B L M, .int .i64 p0.Gap], ownE 3 1 encI a.1 a.2.1 a.2.2 r9.1, ownE 3 1 encI f.1 f.2.1 f.2.2 (b.1 ++ ([(ix p0.Emptyings (ix r9.1 b.2)).ID]))]) [blkE b5 28 [.slice l C G, .slice o J K, .slice i q t, .slice j x y, .slice B L M, .int .i64 p0.Gap], ownE 3 1 encI a.1 a.2.1 a.2.2 r9.1] 13 (by kernel_rfl) (by rfl) (hsub [0, 1] (by kernel_rfl) (by rfl)) ?_ ?_
   ·intro ai g
    refine wh_take 0 37 rfl (by kernel_rfl) (by kernel_rfl) (fun w2 c2 => (op_move (v := .slice _ _ _) rfl)) (hsub [0, 1] (by kernel_rfl) rfl _ g) <| wh_take 1 38 rfl (by kernel_rfl) (by kernel_rfl) (fun w2 c2 => (op_fieldL (m := 3) (k := 3) rfl (by kernel_rfl) rfl)) (hsub [0, 1] (by kernel_rfl) rfl _ g) <| wh_take 2 39 rfl (by kernel_rfl) (by kernel_rfl) (fun w2 c2 => (op_load rfl (by kernel_rfl) (c2.cell 0 (u := .slice _ _ _) rfl rfl))) (hsub [0, 1] (by kernel_rfl) rfl _ g) <| wh_take 3 40 rfl (by kernel_rfl) (by kernel_rfl) (fun w2 c2 => (op_move (v := .slice _ _ _) rfl)) (hsub [0, 1] (by kernel_rfl) rfl _ g) <| wh_take 4 41 rfl (by kernel_rfl) (by kernel_rfl) (fun w2 c2 => (op_move (v := .int .i64 _) rfl)) (hsub [0, 1] (by kernel_rfl) rfl _ g) <| wh_take 5 42 rfl (by kernel_rfl) (by kernel_rfl) (fun w2 c2 => (op_indexA 1 rfl rfl (by kernel_rfl) ((c2.own 1 rfl encI_len).addr O.1 O.2) (c2.ownZ 1 rfl).2.2 O.1 O.2)) (hsub [0, 1] (by kernel_rfl) rfl _ g) <| wh_take 6 43 rfl (by kernel_rfl) (by kernel_rfl) (fun w2 c2 => (op_load (v := .int .i64 (ix r9.1 b.2)) rfl (by kernel_rfl) ((c2.own 1 rfl encI_len).cell0 O.1 O.2 rfl))) (hsub [0, 1] (by kernel_rfl) rfl _ g) <| wh_take 7 44 rfl (by kernel_rfl) (by kernel_rfl) (fun w2 c2 => (op_indexA 7 rfl rfl (by kernel_rfl) ((U.old c2).addr Q.1 Q.2) Z.2.2 Q.1 Q.2)) (hsub [0, 1] (by kernel_rfl) rfl _ g) <| wh_take 8 45 rfl (by kernel_rfl) (by kernel_rfl) (fun w2 c2 => (op_field0 rfl (by kernel_rfl))) (hsub [0, 1] (by kernel_rfl) rfl _ g) <| wh_take 9 46 rfl (by kernel_rfl) (by kernel_rfl) (fun w2 c2 => (op_load (v := .int .i64 ((ix p0.Emptyings (ix r9.1 b.2)).ID)) rfl (by kernel_rfl) ((U.old c2).cell0 Q.1 Q.2 rfl))) (hsub [0, 1] (by kernel_rfl) rfl _ g) <| wh_ready [10] (by kernel_rfl) rfl ⟨?_, trivial⟩
    refine ws_sliceN 47 (el := 3) (sz := 1) (bytes := 8) (enc := encI) [(ix p0.Emptyings (ix r9.1 b.2)).ID] rfl (by kernel_rfl) (by kernel_rfl) encI_len rfl ⟨rfl, rfl, trivial⟩ (by kernel_rfl) (by kernel_rfl) g ?_
    intro a8 a9 aa aj Y
    refine ⟨(hsub [1, 2] (by kernel_rfl) rfl _ Y), ?_⟩
    refine wh_strong (Hs w0 [ownE 3 1 encI a8 a9 aa ([(ix p0.Emptyings (ix r9.1 b.2)).ID]), blkE b5 28 [.slice l C G, .slice o J K, .slice i q t, .slice j x y, .slice B L M, .int .i64 p0.Gap], ownE 3 1 encI a.1 a.2.1 a.2.2 r9.1]) (fun w2 c2 => hsub [1, 2] (by kernel_rfl) rfl w2 c2) <| wh_ready [11] (by kernel_rfl) rfl ⟨?_, trivial⟩
    refine ws_append 48 3 (el := 3) (sz := 1) (bytes := 8) (enc := encI) (l2 := ([(ix p0.Emptyings (ix r9.1 b.2)).ID])) rfl (by kernel_rfl) (by kernel_rfl) encI_len encI_one rfl rfl rfl (Y.ownZ 0 rfl) (Y.own 0 rfl encI_len) a7 (by kernel_rfl) Y ?_
    intro ab ac ad ak a1
    refine ⟨(hsub [0, 1, 2] (by kernel_rfl) rfl _ a1), ?_⟩
    refine wh_take 12 7 rfl (by kernel_rfl) (by kernel_rfl) (fun w2 c2 => (op_assign (v := .slice _ _ _) rfl)) (hsub [0, 1, 2] (by kernel_rfl) rfl _ a1) ?_
    exact wh_done (ab, ac, ad) (by kernel_rfl) sq (hsub [1, 2, 3] (by kernel_rfl) rfl _ a1)
   intro f
   refine xm_of_then <| xm_inN <| xm_next <| cm_region <| la 1 ((35, .int .i64 _) :: _) rfl <| lm_ck (fun ae => ?_)
   refine v_ 36 (fun _ _ => op_add rfl rfl ae) <| la 1 ((8, .int .i64 _) :: _) rfl <| lm_nil ?_
   exact xm_lnext (f.1, f.2.1, f.2.2) sq (sh [0, 1, 2])
  ·refine cm_exit <| xm_thenE <| xm_lexit <| xm_here ?_
   exact xm_lnext (e.1, e.2.1, e.2.2) sq (sh [2])
 intro a0 d
 refine sr <| la 2 ((4, .slice _ _ _) :: (49, .slice _ _ _) :: _) rfl <| nn <| cm_ret ?_
 exact xm_retT rfl (by kernel_rfl) (show _ = Value.slice _ _ _ from rfl) fun w1 c1 => ⟨(d.1, d.2.1, d.2.2), rfl, hsub [0] (by kernel_rfl) rfl w1 c1⟩
/-- recyclingref59.billed -/
def m_recyclingref59_billed (N : Nat) (p0 : ApiBill) (p1 : Int) : Option (Bool) :=
 (andThen
  (loopM (fun (a : Int) =>
   (if a < (List.length p0.Items : Int) then
    ck ((0 : Int) ≤ a ∧ a < (List.length p0.Items : Int)) (
     ck (decide ((ix p0.Items a).Kind = 2) = true → (0 : Int) ≤ a ∧ a < (List.length p0.Items : Int)) (
      (if ((decide ((ix p0.Items a).Kind = 2)) && (decide ((ix p0.Items a).Ref = p1))) = true then
       some (.done (.done (true)))
      else
       ck (I64 (a + (1 : Int))) (
        some (.next (a + (1 : Int)))))))
   else
    some (.done (.next ())))) N (0 : Int))
 fun (_s30 : Unit) =>
  some (false))
set_option maxRecDepth 20000 in
theorem m_recyclingref59_billed_ok (N : Nat) (w0 : World) (p0 : ApiBill) (p1 : Int) (d : Option Addr) (g : Nat) (i : Nat) (a : RdE w0 5 encApiItem d p0.Items) (e : SW d g i (List.length p0.Items)) (r : Bool) (hr : m_recyclingref59_billed N p0 p1 = some r) :
  Ret Tryz.prog 102 [.agg #[.int .i64 p0.ID, .int .i64 p0.Household, .int .i64 p0.When.From, .int .i64 p0.When.To, .slice d g i, .int .i64 p0.Total], .int .i64 p1] w0 (fun (r : Bool) (_u : Unit) => .bool r) (fun (_r : Bool) (_u : Unit) => []) r := by
 refine calls_v (n := 30) r hr Tryz.func102 ?_
 unfold m_recyclingref59_billed
 refine sr <| lm_box 2 [.int .i64 _, .int .i64 _, .int .i64 _, .int .i64 _, .slice _ _ _, .int .i64 _] (by kernel_rfl) rfl ?_
 intro b5
 refine la 1 ((4, .bool false) :: _) rfl <| nn <| cm_join (σ := Unit) (ξ := Unit) (fun q t => []) (fun q t => []) ?_ ?_
 ·refine sr <| la 1 ((5, .int .i64 _) :: _) rfl <| nn <| cm_block <| cm_loop (σ := Int) (ξ := Unit) (fun f x => [(1, .int .i64 p1), (2, .pointer (some ⟨b5, 0, none⟩)), (5, .int .i64 f)]) (fun f x => [blkE b5 52 [.int .i64 p0.ID, .int .i64 p0.Household, .int .i64 p0.When.From, .int .i64 p0.When.To, .slice d g i, .int .i64 p0.Total]]) () ?_ ?_ ?_
  ·exact sq
  ·exact sh [0]
  intro f x
  refine cm_seq <| sr <| la 1 ((6, .int .i64 _) :: _) rfl <| v_ 7 (fun _ _ => oF 4 4 rfl) <| v_ 8 (fun _ c1 => oL (c1.cell 0 (u := .slice _ _ _) rfl rfl)) <| v_ 9 (fun _ _ => op_lenN rfl (by kernel_rfl) e.2.2) <| la 1 ((10, .bool _) :: _) rfl <| nn <| cm_cond (by kernel_rfl) rfl (fun y => ?_) (fun y => ?_)
  ·refine sk <| cm_seq <| cm_block <| cm_seq <| cm_ck (fun l => ?_)
   refine cm_ck (fun o => ?_)
   refine cm_cutE [(29, .bool ((decide ((ix p0.Items f).Kind = 2)) && (decide ((ix p0.Items f).Ref = p1))))] ?_ ?_
   ·refine q_ 13 (fun _ _ => oF 4 4 rfl) <| q_ 14 (fun _ c1 => oL (c1.cell 0 (u := .slice _ _ _) rfl rfl)) <| qa 1 ((15, .int .i64 _) :: _) rfl <| q_ 16 (fun _ c1 => oI 5 rfl rfl ((a.old c1).addr l.1 l.2) e.2.2 l) <| q_ 17 (fun _ _ => op_field0 rfl (by kernel_rfl)) <| q_ 18 (fun _ c1 => oL (v := .int .i64 ((ix p0.Items f).Kind)) ((a.old c1).cell0 l.1 l.2 rfl)) <| qd 19 (fun _ _ => op_eql rfl rfl) (fun b => ?_) (fun b => ?_)
    ·refine qa 1 ((20, .bool true) :: _) rfl <| q_ 21 (fun _ _ => oF 4 4 rfl) <| q_ 22 (fun _ c1 => oL (c1.cell 0 (u := .slice _ _ _) rfl rfl)) <| qa 1 ((23, .int .i64 _) :: _) rfl <| q_ 24 (fun _ c1 => oI 5 rfl rfl ((a.old c1).addr (o (by rw [decide_eq_true b] <;> rfl)).1 (o (by rw [decide_eq_true b] <;> rfl)).2) e.2.2 (o (by rw [decide_eq_true b] <;> rfl))) <| q_ 25 (fun _ _ => op_field (m := 1) rfl (by kernel_rfl)) <| q_ 26 (fun _ c1 => oL (v := .int .i64 ((ix p0.Items f).Ref)) ((a.old c1).cell (j := 1) (o (by rw [decide_eq_true b] <;> rfl)).1 (o (by rw [decide_eq_true b] <;> rfl)).2 rfl)) <| qa 3 ((29, .bool _) :: (28, .bool _) :: (27, .int .i64 _) :: _) rfl ?_
     exact leaf_q (sub_out 17 _ rfl (by kernel_rfl) ⟨(congrArg Value.bool (by rw [decide_eq_true b] <;> rfl)), trivial⟩)
    ·refine qa 10 ((29, .bool false) :: (28, undef) :: (27, undef) :: (26, undef) :: (25, undef) :: (24, undef) :: (23, undef) :: (22, undef) :: (21, undef) :: (20, .bool false) :: _) rfl ?_
     exact leaf_q (sub_out 17 _ rfl (by kernel_rfl) ⟨(congrArg Value.bool (by rw [decide_eq_false b] <;> rfl)), trivial⟩)
   refine xm_next <| cm_condB (by kernel_rfl) rfl (fun z => ?_) (fun z => ?_)
   ·refine sr <| la 1 ((4, .bool true) :: _) rfl <| nn <| cm_ret <| xm_inR <| xm_thenR <| xm_lret <| xm_inR <| xm_lret ?_
    exact xm_retT rfl (by kernel_rfl) (show _ = Value.bool true from rfl) fun w1 c1 => ⟨(), rfl, hsub [] (by kernel_rfl) rfl w1 c1⟩
   ·refine cm_skip <| xm_inN <| xm_next <| cm_region <| la 1 ((11, .int .i64 _) :: _) rfl <| lm_ck (fun B => ?_)
    refine v_ 12 (fun _ _ => op_add rfl rfl B) <| la 1 ((5, .int .i64 _) :: _) rfl <| lm_nil ?_
    exact xm_lnext () sq (sh [0])
  ·refine cm_exit <| xm_thenE <| xm_lexit <| xm_here ?_
   exact xm_lnext () sub_nil (sh [])
 intro q t
 refine sr <| la 1 ((4, .bool false) :: _) rfl <| nn <| cm_ret ?_
 exact xm_retT rfl (by kernel_rfl) (show _ = Value.bool false from rfl) fun w1 c1 => ⟨(), rfl, hsub [] (by kernel_rfl) rfl w1 c1⟩
/-- recyclingref59.missing -/
def m_recyclingref59_missing (N : Nat) (p0 : ApiAccount) (p1 : ApiBill) (p2 : Int) : Option ((List ApiFinding)) :=
 Option.bind (m_recyclingref53_Base N p0.Tariffs p1.When) fun e => (andThen
  (loopM (fun (d : Int) =>
   (if d < (List.length e.1 : Int) then
    ck ((0 : Int) ≤ d ∧ d < (List.length e.1 : Int)) (
     Option.bind (m_recyclingref59_has N p1.Items (ix e.1 d)) fun j => (if (!j) = true then
      ck ((List.length ([] : List ApiFinding) + List.length ([(ApiFinding.mk 12 p2 0)])) * 24 ≤ 140737488355328) (
       some (.done (.next (([] : List ApiFinding) ++ ([(ApiFinding.mk 12 p2 0)])))))
     else
      ck (I64 (d + (1 : Int))) (
       some (.next (d + (1 : Int))))))
   else
    some (.done (.next ([] : List ApiFinding))))) N (0 : Int))
 fun (l : (List ApiFinding)) =>
  Option.bind (m_recyclingref59_counting N p0 p1) fun b => (andThen
   (loopM (fun (a : (List ApiFinding) × Int) =>
    (if a.2 < (List.length b : Int) then
     (andThen
      (ck ((0 : Int) ≤ a.2 ∧ a.2 < (List.length b : Int)) (
       Option.bind (m_recyclingref59_billed N p1 (ix b a.2)) fun f => (if (!f) = true then
        ck ((0 : Int) ≤ a.2 ∧ a.2 < (List.length b : Int)) (
         ck ((List.length a.1 + List.length ([(ApiFinding.mk 12 p2 (ix b a.2))])) * 24 ≤ 140737488355328) (
          some (.next (a.1 ++ ([(ApiFinding.mk 12 p2 (ix b a.2))])))))
       else
        some (.next a.1))))
     fun (g : (List ApiFinding)) =>
      ck (I64 (a.2 + (1 : Int))) (
       some (.next (g, (a.2 + (1 : Int))))))
    else
     some (.done (.next a.1)))) N (l, (0 : Int)))
  fun (i : (List ApiFinding)) =>
   some (i)))
set_option maxHeartbeats 2000000 in
set_option maxRecDepth 20000 in
theorem m_recyclingref59_missing_ok (N : Nat) (w0 : World) (p0 : ApiAccount) (p1 : ApiBill) (p2 : Int) (o : Option Addr) (G : Nat) (J : Nat) (q : Option Addr) (K : Nat) (L : Nat) (t : Option Addr) (M : Nat) (O : Nat) (x : Option Addr) (Q : Nat) (U : Nat) (l : Option Addr) (y : Nat) (B : Nat) (b : Option Addr) (e : Nat) (f : Nat) (a9 : RdE w0 2 encApiHousehold o p0.Households) (aa : SW o G J (List.length p0.Households)) (ab : RdE w0 5 encApiContainer q p0.Containers) (ac : SW q K L (List.length p0.Containers)) (ad : RdE w0 4 encApiAssign t p0.Assigns) (ae : SW t M O (List.length p0.Assigns)) (af : RdE w0 7 encApiEmptying x p0.Emptyings) (ag : SW x Q U (List.length p0.Emptyings)) (a4 : RdE w0 5 encApiTariff l p0.Tariffs) (a5 : SW l y B (List.length p0.Tariffs)) (Y : RdE w0 5 encApiItem b p1.Items) (Z : SW b e f (List.length p1.Items)) (r : (List ApiFinding)) (hr : m_recyclingref59_missing N p0 p1 p2 = some r) :
  Ret Tryz.prog 48 [.agg #[.slice o G J, .slice q K L, .slice t M O, .slice x Q U, .slice l y B, .int .i64 p0.Gap], .agg #[.int .i64 p1.ID, .int .i64 p1.Household, .int .i64 p1.When.From, .int .i64 p1.When.To, .slice b e f, .int .i64 p1.Total], .int .i64 p2] w0 (fun (_r : (List ApiFinding)) (u : (Option Addr) × Nat × Nat) => .slice u.1 u.2.1 u.2.2) (fun (r : (List ApiFinding)) (u : (Option Addr) × Nat × Nat) => [ownE 64 3 encApiFinding u.1 u.2.1 u.2.2 r]) r := by
 refine calls_v (n := 67) r hr Tryz.func48 ?_
 unfold m_recyclingref59_missing
 refine sr <| lm_box 3 [.slice _ _ _, .slice _ _ _, .slice _ _ _, .slice _ _ _, .slice _ _ _, .int .i64 _] (by kernel_rfl) rfl ?_
 intro b5
 refine lm_box 4 [.int .i64 _, .int .i64 _, .int .i64 _, .int .i64 _, .slice _ _ _, .int .i64 _] (by kernel_rfl) rfl ?_
 intro b6
 refine la 1 ((6, .slice _ _ _) :: _) rfl <| nn <| sr <| lm_slice0 13 (el := 64) (sz := 3) (bytes := 24) (enc := encApiFinding) (by kernel_rfl) (by kernel_rfl) ?_
 intro A7 n8 k9 bd
 refine la 1 ((7, .slice _ _ _) :: _) rfl <| nn <| sr <| v_ 15 (fun _ _ => oF 4 4 rfl) <| v_ 16 (fun _ c1 => oL (c1.cell 2 (u := .slice _ _ _) rfl rfl)) <| v_ 17 (fun _ _ => oF 2 2 rfl) <| v_ 18 (fun _ c1 => oR [.int .i64 _, .int .i64 _] (c1.cells 1 rfl rfl)) <| lm_call 19 (V := (fun (r : (List ApiItem) × Int) (u : (Option Addr) × Nat × Nat) => .tuple #[.slice u.1 u.2.1 u.2.2, .int .i64 r.2])) (HR := (fun (r : (List ApiItem) × Int) (u : (Option Addr) × Nat × Nat) => [ownE 100 5 encApiItem u.1 u.2.1 u.2.2 r.1])) (by kernel_rfl) (fun w1 => op_call (by kernel_rfl)) (fun r1 hr1 w1 c1 => m_recyclingref53_Base_ok N w1 p0.Tariffs p1.When l y B (a4.old c1) a5 r1 hr1) ?_
 intro a0 a3
 refine la 5 ((9, .int .i64 _) :: (8, .slice _ _ _) :: (21, .int .i64 _) :: (20, .slice _ _ _) :: (14, .tuple _) :: _) rfl <| nn <| cm_join (σ := (List ApiFinding)) (ξ := (Option Addr) × Nat × Nat) (fun ah m => [(2, .int .i64 p2), (3, .pointer (some ⟨b5, 0, none⟩)), (4, .pointer (some ⟨b6, 0, none⟩)), (7, .slice m.1 m.2.1 m.2.2)]) (fun ah m => [blkE b5 28 [.slice o G J, .slice q K L, .slice t M O, .slice x Q U, .slice l y B, .int .i64 p0.Gap], blkE b6 52 [.int .i64 p1.ID, .int .i64 p1.Household, .int .i64 p1.When.From, .int .i64 p1.When.To, .slice b e f, .int .i64 p1.Total], ownE 64 3 encApiFinding m.1 m.2.1 m.2.2 ah]) ?_ ?_
 ·refine sr <| la 1 ((10, .int .i64 _) :: _) rfl <| nn <| cm_block <| cm_loop (σ := Int) (ξ := Unit) (fun X aj => [(2, .int .i64 p2), (3, .pointer (some ⟨b5, 0, none⟩)), (4, .pointer (some ⟨b6, 0, none⟩)), (7, .slice A7 n8 k9), (8, .slice a3.1 a3.2.1 a3.2.2), (10, .int .i64 X)]) (fun X aj => [blkE b5 28 [.slice o G J, .slice q K L, .slice t M O, .slice x Q U, .slice l y B, .int .i64 p0.Gap], blkE b6 52 [.int .i64 p1.ID, .int .i64 p1.Household, .int .i64 p1.When.From, .int .i64 p1.When.To, .slice b e f, .int .i64 p1.Total], ownE 64 3 encApiFinding A7 n8 k9 ([] : List ApiFinding), ownE 100 5 encApiItem a3.1 a3.2.1 a3.2.2 a0.1]) () ?_ ?_ ?_
  ·exact sq
  ·exact sh [3, 2, 1, 0]
  intro X aj
  refine cm_seq <| sr <| la 2 ((23, .slice _ _ _) :: (22, .int .i64 _) :: _) rfl <| v_ 24 (fun _ c1 => op_lenN rfl (by kernel_rfl) (c1.ownZ 3 rfl).2.2) <| la 1 ((25, .bool _) :: _) rfl <| nn <| cm_cond (by kernel_rfl) rfl (fun b2 => ?_) (fun b2 => ?_)
  ·refine sk <| cm_seq <| cm_block <| cm_seq <| cm_ck (fun a6 => ?_)
   refine cm_bind fun ak al => cm_drawn [(35, .bool (!ak))] (by kernel_rfl) (by kernel_rfl) ?_ ?_
   ·refine q_ 28 (fun _ _ => oF 4 4 rfl) <| q_ 29 (fun _ c1 => oL (c1.cell 1 (u := .slice _ _ _) rfl rfl)) <| qa 2 ((31, .int .i64 _) :: (30, .slice _ _ _) :: _) rfl <| q_ 32 (fun _ c1 => oI 5 rfl rfl ((c1.own 3 rfl encApiItem_len).addr a6.1 a6.2) (c1.ownZ 3 rfl).2.2 a6) <| q_ 33 (fun _ c1 => oR [.int .i64 ((ix a0.1 X).Kind), .int .i64 ((ix a0.1 X).Ref), .int .i64 ((ix a0.1 X).Count), .int .i64 ((ix a0.1 X).Price), .int .i64 ((ix a0.1 X).Amount)] ((c1.own 3 rfl encApiItem_len).row a6.1 a6.2)) <| wq_call 34 (by kernel_rfl) (fun w1 c1 => op_call (by kernel_rfl)) (fun w1 c1 => (m_recyclingref59_has_ok N w1 p1.Items (ix a0.1 X) b e f (Y.old c1) Z ak al).mono (fun _ _ ⟨_, hx, hu⟩ => ⟨hx, c1.call hu⟩)) <| qa 1 ((35, .bool _) :: _) rfl ?_
    exact lq 8
   refine xm_next <| cm_condB (by kernel_rfl) rfl (fun am => ?_) (fun am => ?_)
   ·refine sr <| la 2 ((37, .int .i64 _) :: (36, .slice _ _ _) :: _) rfl <| v_ 38 (fun _ _ => op_build (z := [.int .i64 0, .int .i64 0, .int .i64 0]) (tab := [(0, 1), (1, 1), (2, 1)]) (cs := [.int .i64 _, .int .i64 _, .int .i64 _]) [(0, [.int .i64 _]), (1, [.int .i64 _])] (by kernel_rfl) (by kernel_rfl) (fillOk_cons rfl rfl rfl (fillOk_cons rfl rfl rfl fillOk_nil)) rfl) <| lm_slice1 39 (el := 64) (sz := 3) (bytes := 24) (enc := encApiFinding) (ApiFinding.mk 12 p2 0) (by kernel_rfl) (by kernel_rfl) encApiFinding_len rfl (by kernel_rfl) ?_
    intro b3 b4 b7 b8
    refine lm_ck (fun an => ?_)
    refine lm_append 40 3 (el := 64) (sz := 3) (bytes := 24) (enc := encApiFinding) (l2 := ([(ApiFinding.mk 12 p2 0)])) (by kernel_rfl) (by kernel_rfl) encApiFinding_len encApiFinding_one rfl rfl rfl (fun w1 c1 => (c1.ownZ 0 rfl)) (fun w1 c1 => (c1.own 0 rfl encApiFinding_len)) an ?_ (by kernel_rfl)
    intro ao ap aq
    refine la 1 ((7, .slice _ _ _) :: _) rfl <| nn <| cm_exit <| xm_pass (by kernel_rfl) <| xm_thenE <| xm_lexit <| xm_here ?_
    exact xm_lnext (ao, ap, aq) sq (sh [1, 2, 3])
   ·refine cm_skip <| xm_inN <| xm_next <| cm_region <| la 1 ((26, .int .i64 _) :: _) rfl <| lm_ck (fun ar => ?_)
    refine v_ 27 (fun _ _ => op_add rfl rfl ar) <| la 1 ((10, .int .i64 _) :: _) rfl <| lm_nil ?_
    exact xm_lnext () sq (sh [0, 1, 2, 3])
  ·refine cm_exit <| xm_thenE <| xm_lexit <| xm_here ?_
   exact xm_lnext (A7, n8, k9) sq (sh [0, 1, 2])
 intro ah m
 refine sr <| v_ 41 (fun _ c1 => oR [.slice _ _ _, .slice _ _ _, .slice _ _ _, .slice _ _ _, .slice _ _ _, .int .i64 _] (c1.cells 0 rfl rfl)) <| v_ 42 (fun _ c1 => oR [.int .i64 _, .int .i64 _, .int .i64 _, .int .i64 _, .slice _ _ _, .int .i64 _] (c1.cells 1 rfl rfl)) <| lm_call 43 (V := (fun (_r : (List Int)) (u : (Option Addr) × Nat × Nat) => .slice u.1 u.2.1 u.2.2)) (HR := (fun (r : (List Int)) (u : (Option Addr) × Nat × Nat) => [ownE 3 1 encI u.1 u.2.1 u.2.2 r])) (by kernel_rfl) (fun w1 => op_call (by kernel_rfl)) (fun r1 hr1 w1 c1 => m_recyclingref59_counting_ok N w1 p0 p1 o G J q K L t M O x Q U l y B b e f (a9.old c1) aa (ab.old c1) ac (ad.old c1) ae (af.old c1) ag (a4.old c1) a5 (Y.old c1) Z r1 hr1) ?_
 intro C d
 refine la 1 ((11, .slice _ _ _) :: _) rfl <| nn <| cm_join (σ := (List ApiFinding)) (ξ := (Option Addr) × Nat × Nat) (fun a7 g => [(7, .slice g.1 g.2.1 g.2.2)]) (fun a7 g => [ownE 64 3 encApiFinding g.1 g.2.1 g.2.2 a7]) ?_ ?_
 ·refine sr <| la 1 ((12, .int .i64 _) :: _) rfl <| nn <| cm_block <| cm_loop (σ := (List ApiFinding) × Int) (ξ := (Option Addr) × Nat × Nat) (fun j a => [(2, .int .i64 p2), (4, .pointer (some ⟨b6, 0, none⟩)), (7, .slice a.1 a.2.1 a.2.2), (11, .slice d.1 d.2.1 d.2.2), (12, .int .i64 j.2)]) (fun j a => [blkE b6 52 [.int .i64 p1.ID, .int .i64 p1.Household, .int .i64 p1.When.From, .int .i64 p1.When.To, .slice b e f, .int .i64 p1.Total], ownE 64 3 encApiFinding a.1 a.2.1 a.2.2 j.1, ownE 3 1 encI d.1 d.2.1 d.2.2 C]) (m.1, m.2.1, m.2.2) ?_ ?_ ?_
  ·exact sq
  ·exact sh [2, 3, 0]
  intro j a
  refine cm_seq <| sr <| la 2 ((45, .slice _ _ _) :: (44, .int .i64 _) :: _) rfl <| v_ 46 (fun _ c1 => op_lenN rfl (by kernel_rfl) (c1.ownZ 2 rfl).2.2) <| la 1 ((47, .bool _) :: _) rfl <| nn <| cm_cond (by kernel_rfl) rfl (fun au => ?_) (fun au => ?_)
  ·refine sk <| cm_join (σ := (List ApiFinding)) (ξ := (Option Addr) × Nat × Nat) (fun a8 i => [(2, .int .i64 p2), (4, .pointer (some ⟨b6, 0, none⟩)), (7, .slice i.1 i.2.1 i.2.2), (11, .slice d.1 d.2.1 d.2.2), (12, .int .i64 j.2)]) (fun a8 i => [blkE b6 52 [.int .i64 p1.ID, .int .i64 p1.Household, .int .i64 p1.When.From, .int .i64 p1.When.To, .slice b e f, .int .i64 p1.Total], ownE 64 3 encApiFinding i.1 i.2.1 i.2.2 a8, ownE 3 1 encI d.1 d.2.1 d.2.2 C]) ?_ ?_
   ·refine cm_block <| cm_seq <| cm_ck (fun a1 => ?_)
    refine cm_bind fun ai av => cm_drawn [(56, .bool (!ai))] (by kernel_rfl) (by kernel_rfl) ?_ ?_
    ·refine q_ 50 (fun _ c1 => oR [.int .i64 _, .int .i64 _, .int .i64 _, .int .i64 _, .slice _ _ _, .int .i64 _] (c1.cells 0 rfl rfl)) <| qa 2 ((52, .int .i64 _) :: (51, .slice _ _ _) :: _) rfl <| q_ 53 (fun _ c1 => oI 1 rfl rfl ((c1.own 2 rfl encI_len).addr a1.1 a1.2) (c1.ownZ 2 rfl).2.2 a1) <| q_ 54 (fun _ c1 => oL (v := .int .i64 (ix C j.2)) ((c1.own 2 rfl encI_len).cell0 a1.1 a1.2 rfl)) <| wq_call 55 (by kernel_rfl) (fun w1 c1 => op_call (by kernel_rfl)) (fun w1 c1 => (m_recyclingref59_billed_ok N w1 p1 (ix C j.2) b e f (Y.old c1) Z ai av).mono (fun _ _ ⟨_, hx, hu⟩ => ⟨hx, c1.call hu⟩)) <| qa 1 ((56, .bool _) :: _) rfl ?_
     exact lq 7
    refine xm_next <| cm_condB (by kernel_rfl) rfl (fun aw => ?_) (fun aw => ?_)
    ·refine cm_region <| la 4 ((60, .int .i64 _) :: (59, .slice _ _ _) :: (58, .int .i64 _) :: (57, .slice _ _ _) :: _) rfl <| lm_ck (fun a2 => ?_)
     refine v_ 61 (fun _ c1 => oI 1 rfl rfl ((c1.own 2 rfl encI_len).addr a2.1 a2.2) (c1.ownZ 2 rfl).2.2 a2) <| v_ 62 (fun _ c1 => oL (v := .int .i64 (ix C j.2)) ((c1.own 2 rfl encI_len).cell0 a2.1 a2.2 rfl)) <| v_ 63 (fun _ _ => op_build (z := [.int .i64 0, .int .i64 0, .int .i64 0]) (tab := [(0, 1), (1, 1), (2, 1)]) (cs := [.int .i64 _, .int .i64 _, .int .i64 _]) [(0, [.int .i64 _]), (1, [.int .i64 _]), (2, [.int .i64 _])] (by kernel_rfl) (by kernel_rfl) (fillOk_cons rfl rfl rfl (fillOk_cons rfl rfl rfl (fillOk_cons rfl rfl rfl fillOk_nil))) rfl) <| lm_slice1 64 (el := 64) (sz := 3) (bytes := 24) (enc := encApiFinding) (ApiFinding.mk 12 p2 (ix C j.2)) (by kernel_rfl) (by kernel_rfl) encApiFinding_len rfl (by kernel_rfl) ?_
     intro b9 ba bb bc
     refine lm_ck (fun ax => ?_)
     refine lm_append 65 2 (el := 64) (sz := 3) (bytes := 24) (enc := encApiFinding) (l2 := ([(ApiFinding.mk 12 p2 (ix C j.2))])) (by kernel_rfl) (by kernel_rfl) encApiFinding_len encApiFinding_one rfl rfl rfl (fun w1 c1 => (c1.ownZ 0 rfl)) (fun w1 c1 => (c1.own 0 rfl encApiFinding_len)) ax ?_ (by kernel_rfl)
     intro ay az b0
     refine la 1 ((7, .slice _ _ _) :: _) rfl <| lm_nil <| xm_inN ?_
     exact xm_lnext (ay, az, b0) sq (sh [1, 2, 3])
    ·refine cm_skip <| xm_inN ?_
     exact xm_lnext (a.1, a.2.1, a.2.2) sq (sh [0, 1, 2])
   intro a8 i
   refine cm_region <| la 1 ((48, .int .i64 _) :: _) rfl <| lm_ck (fun b1 => ?_)
   refine v_ 49 (fun _ _ => op_add rfl rfl b1) <| la 1 ((12, .int .i64 _) :: _) rfl <| lm_nil ?_
   exact xm_lnext (i.1, i.2.1, i.2.2) sq (sh [0, 1, 2])
  ·refine cm_exit <| xm_thenE <| xm_lexit <| xm_here ?_
   exact xm_lnext (a.1, a.2.1, a.2.2) sq (sh [1])
 intro a7 g
 refine sr <| la 2 ((6, .slice _ _ _) :: (66, .slice _ _ _) :: _) rfl <| nn <| cm_ret ?_
 exact xm_retT rfl (by kernel_rfl) (show _ = Value.slice _ _ _ from rfl) fun w1 c1 => ⟨(g.1, g.2.1, g.2.2), rfl, hsub [0] (by kernel_rfl) rfl w1 c1⟩
/-- recyclingref59.in -/
def m_recyclingref59_in (N : Nat) (p0 : (List Int)) (p1 : Int) : Option (Bool) :=
 (andThen
  (loopM (fun (a : Int) =>
   (if a < (List.length p0 : Int) then
    ck ((0 : Int) ≤ a ∧ a < (List.length p0 : Int)) (
     (if (ix p0 a) = p1 then
      some (.done (.done (true)))
     else
      ck (I64 (a + (1 : Int))) (
       some (.next (a + (1 : Int))))))
   else
    some (.done (.next ())))) N (0 : Int))
 fun (_s23 : Unit) =>
  some (false))
set_option maxRecDepth 20000 in
theorem m_recyclingref59_in_ok (N : Nat) (w0 : World) (p0 : (List Int)) (p1 : Int) (a : Option Addr) (d : Nat) (e : Nat) (f : RdE w0 1 encI a p0) (g : SW a d e (List.length p0)) (r : Bool) (hr : m_recyclingref59_in N p0 p1 = some r) :
  Ret Tryz.prog 50 [.slice a d e, .int .i64 p1] w0 (fun (r : Bool) (_u : Unit) => .bool r) (fun (_r : Bool) (_u : Unit) => []) r := by
 refine calls_v (n := 18) r hr Tryz.func50 ?_
 unfold m_recyclingref59_in
 refine sr <| la 1 ((4, .bool false) :: _) rfl <| nn <| cm_join (σ := Unit) (ξ := Unit) (fun j l => []) (fun j l => []) ?_ ?_
 ·refine sr <| la 1 ((5, .int .i64 _) :: _) rfl <| nn <| cm_block <| cm_loop (σ := Int) (ξ := Unit) (fun i m => [(0, .slice a d e), (1, .int .i64 p1), (5, .int .i64 i)]) (fun i m => []) () ?_ ?_ ?_
  ·exact sq
  ·exact sh []
  intro i m
  refine cm_seq <| sr <| la 2 ((7, .slice _ _ _) :: (6, .int .i64 _) :: _) rfl <| v_ 8 (fun _ _ => op_lenN rfl (by kernel_rfl) g.2.2) <| la 1 ((9, .bool _) :: _) rfl <| nn <| cm_cond (by kernel_rfl) rfl (fun o => ?_) (fun o => ?_)
  ·refine sk <| cm_seq <| cm_block <| sr <| la 2 ((13, .int .i64 _) :: (12, .slice _ _ _) :: _) rfl <| lm_ck (fun b => ?_)
   refine v_ 14 (fun _ c1 => oI 1 rfl rfl ((f.old c1).addr b.1 b.2) g.2.2 b) <| v_ 15 (fun _ c1 => oL (v := .int .i64 (ix p0 i)) ((f.old c1).cell0 b.1 b.2 rfl)) <| la 2 ((17, .bool _) :: (16, .int .i64 _) :: _) rfl <| nn <| cm_cond (by kernel_rfl) rfl (fun q => ?_) (fun q => ?_)
   ·refine sr <| la 1 ((4, .bool true) :: _) rfl <| nn <| cm_ret <| xm_inR <| xm_thenR <| xm_lret <| xm_inR <| xm_lret ?_
    exact xm_retT rfl (by kernel_rfl) (show _ = Value.bool true from rfl) fun w1 c1 => ⟨(), rfl, hsub [] (by kernel_rfl) rfl w1 c1⟩
   ·refine cm_skip <| xm_inN <| xm_next <| cm_region <| la 1 ((10, .int .i64 _) :: _) rfl <| lm_ck (fun t => ?_)
    refine v_ 11 (fun _ _ => op_add rfl rfl t) <| la 1 ((5, .int .i64 _) :: _) rfl <| lm_nil ?_
    exact xm_lnext () sq (sh [])
  ·refine cm_exit <| xm_thenE <| xm_lexit <| xm_here ?_
   exact xm_lnext () sub_nil (sh [])
 intro j l
 refine sr <| la 1 ((4, .bool false) :: _) rfl <| nn <| cm_ret ?_
 exact xm_retT rfl (by kernel_rfl) (show _ = Value.bool false from rfl) fun w1 c1 => ⟨(), rfl, hsub [] (by kernel_rfl) rfl w1 c1⟩
/-- recyclingref59.charged -/
def m_recyclingref59_charged (N : Nat) (p0 : ApiBill) (p1 : Int) : Option (Int) :=
 (andThen
  (loopM (fun (a : Int × Int) =>
   (if a.2 < (List.length p0.Items : Int) then
    (andThen
     (ck ((0 : Int) ≤ a.2 ∧ a.2 < (List.length p0.Items : Int)) (
      (if ((decide ((ix p0.Items a.2).Ref = p1)) && (decide ((ix p0.Items a.2).Kind ≠ 1))) = true then
       ck (I64 (a.1 + (max (-1000000000001 : Int) (min (1000000000001 : Int) ((ix p0.Items a.2).Amount))))) (
        some (.next (a.1 + (max (-1000000000001 : Int) (min (1000000000001 : Int) ((ix p0.Items a.2).Amount))))))
      else
       some (.next a.1))))
    fun (b : Int) =>
     ck (I64 (a.2 + (1 : Int))) (
      some (.next (b, (a.2 + (1 : Int))))))
   else
    some (.done (.next a.1)))) N ((0 : Int), (0 : Int)))
 fun (d : Int) =>
  some (d))
set_option maxRecDepth 20000 in
theorem m_recyclingref59_charged_ok (N : Nat) (w0 : World) (p0 : ApiBill) (p1 : Int) (b : Option Addr) (d : Nat) (e : Nat) (f : RdE w0 5 encApiItem b p0.Items) (g : SW b d e (List.length p0.Items)) (r : Int) (hr : m_recyclingref59_charged N p0 p1 = some r) :
  Ret Tryz.prog 52 [.agg #[.int .i64 p0.ID, .int .i64 p0.Household, .int .i64 p0.When.From, .int .i64 p0.When.To, .slice b d e, .int .i64 p0.Total], .int .i64 p1] w0 (fun (r : Int) (_u : Unit) => .int .i64 r) (fun (_r : Int) (_u : Unit) => []) r := by
 refine calls_v (n := 36) r hr Tryz.func52 ?_
 unfold m_recyclingref59_charged
 refine sr <| lm_box 2 [.int .i64 _, .int .i64 _, .int .i64 _, .int .i64 _, .slice _ _ _, .int .i64 _] (by kernel_rfl) rfl ?_
 intro b5
 refine la 1 ((4, .int .i64 _) :: _) rfl <| nn <| sr <| la 1 ((5, .int .i64 _) :: _) rfl <| nn <| cm_join (σ := Int) (ξ := Unit) (fun l o => [(5, .int .i64 l)]) (fun l o => []) ?_ ?_
 ·refine sr <| la 1 ((6, .int .i64 _) :: _) rfl <| nn <| cm_block <| cm_loop (σ := Int × Int) (ξ := Unit) (fun a q => [(1, .int .i64 p1), (2, .pointer (some ⟨b5, 0, none⟩)), (5, .int .i64 a.1), (6, .int .i64 a.2)]) (fun a q => [blkE b5 52 [.int .i64 p0.ID, .int .i64 p0.Household, .int .i64 p0.When.From, .int .i64 p0.When.To, .slice b d e, .int .i64 p0.Total]]) () ?_ ?_ ?_
  ·exact sq
  ·exact sh [0]
  intro a q
  refine cm_seq <| sr <| la 1 ((8, .int .i64 _) :: _) rfl <| v_ 9 (fun _ _ => oF 4 4 rfl) <| v_ 10 (fun _ c1 => oL (c1.cell 0 (u := .slice _ _ _) rfl rfl)) <| v_ 11 (fun _ _ => op_lenN rfl (by kernel_rfl) g.2.2) <| la 1 ((12, .bool _) :: _) rfl <| nn <| cm_cond (by kernel_rfl) rfl (fun B => ?_) (fun B => ?_)
  ·refine sk <| cm_join (σ := Int) (ξ := Unit) (fun m t => [(1, .int .i64 p1), (2, .pointer (some ⟨b5, 0, none⟩)), (5, .int .i64 m), (6, .int .i64 a.2)]) (fun m t => [blkE b5 52 [.int .i64 p0.ID, .int .i64 p0.Household, .int .i64 p0.When.From, .int .i64 p0.When.To, .slice b d e, .int .i64 p0.Total]]) ?_ ?_
   ·refine cm_block <| sr <| v_ 15 (fun _ _ => oF 4 4 rfl) <| v_ 16 (fun _ c1 => oL (c1.cell 0 (u := .slice _ _ _) rfl rfl)) <| la 1 ((17, .int .i64 _) :: _) rfl <| lm_ck (fun i => ?_)
    refine v_ 18 (fun _ c1 => oI 5 rfl rfl ((f.old c1).addr i.1 i.2) g.2.2 i) <| v_ 19 (fun _ c1 => oR [.int .i64 ((ix p0.Items a.2).Kind), .int .i64 ((ix p0.Items a.2).Ref), .int .i64 ((ix p0.Items a.2).Count), .int .i64 ((ix p0.Items a.2).Price), .int .i64 ((ix p0.Items a.2).Amount)] ((f.old c1).row i.1 i.2)) <| lm_alloc 7 [.int .i64 0, .int .i64 0, .int .i64 0, .int .i64 0, .int .i64 0] (v := .agg #[.int .i64 0, .int .i64 0, .int .i64 0, .int .i64 0, .int .i64 0]) (by kernel_rfl) (by kernel_rfl) rfl ?_
    intro C
    refine lm_storeA 0 [.int .i64 _, .int .i64 _, .int .i64 _, .int .i64 _, .int .i64 _] [_, _, _, _, _] (H' := [blkE _ _ [_, _, _, _, _], _]) (by kernel_rfl) rfl rfl (by kernel_rfl) rfl rfl (by kernel_rfl) rfl rfl <| nn <| cm_seq <| cm_cutE [(28, .bool ((decide ((ix p0.Items a.2).Ref = p1)) && (decide ((ix p0.Items a.2).Kind ≠ 1))))] ?_ ?_
    ·refine q_ 20 (fun _ _ => oF 1 1 rfl) <| q_ 21 (fun _ c1 => oL (c1.cell 0 (u := .int .i64 _) rfl rfl)) <| qa 1 ((22, .int .i64 _) :: _) rfl <| qd 23 (fun _ _ => op_eql rfl rfl) (fun j => ?_) (fun j => ?_)
     ·refine qa 1 ((24, .bool true) :: _) rfl <| q_ 25 (fun _ _ => oF 0 0 rfl) <| q_ 26 (fun _ c1 => oL (c1.cell 0 (u := .int .i64 _) rfl rfl)) <| qa 2 ((28, .bool _) :: (27, .bool _) :: _) rfl ?_
      exact leaf_q (sub_out 9 _ rfl (by kernel_rfl) ⟨(congrArg Value.bool (by rw [decide_eq_true j] <;> rfl)), trivial⟩)
     ·refine qa 5 ((28, .bool false) :: (27, undef) :: (26, undef) :: (25, undef) :: (24, .bool false) :: _) rfl ?_
      exact leaf_q (sub_out 9 _ rfl (by kernel_rfl) ⟨(congrArg Value.bool (by rw [decide_eq_false j] <;> rfl)), trivial⟩)
    refine xm_next <| cm_condB (by kernel_rfl) rfl (fun x => ?_) (fun x => ?_)
    ·refine cm_region <| la 1 ((29, .int .i64 _) :: _) rfl <| v_ 30 (fun _ _ => oF 4 4 rfl) <| v_ 31 (fun _ c1 => oL (c1.cell 0 (u := .int .i64 _) rfl rfl)) <| v_ 32 (fun _ _ => op_min rfl rfl) <| v_ 33 (fun _ _ => op_max rfl rfl) <| lm_ck (fun y => ?_)
     refine v_ 34 (fun _ _ => op_add rfl rfl y) <| la 1 ((5, .int .i64 _) :: _) rfl <| lm_nil <| xm_inN ?_
     exact xm_lnext () sq (sh [1])
    ·refine cm_skip <| xm_inN ?_
     exact xm_lnext () sq (sh [1])
   intro m t
   refine cm_region <| la 1 ((13, .int .i64 _) :: _) rfl <| lm_ck (fun z => ?_)
   refine v_ 14 (fun _ _ => op_add rfl rfl z) <| la 1 ((6, .int .i64 _) :: _) rfl <| lm_nil ?_
   exact xm_lnext () sq (sh [0])
  ·refine cm_exit <| xm_thenE <| xm_lexit <| xm_here ?_
   exact xm_lnext () sq (sh [])
 intro l o
 refine sr <| la 2 ((4, .int .i64 _) :: (35, .int .i64 _) :: _) rfl <| nn <| cm_ret ?_
 exact xm_retT rfl (by kernel_rfl) (show _ = Value.int .i64 _ from rfl) fun w1 c1 => ⟨(), rfl, hsub [] (by kernel_rfl) rfl w1 c1⟩
/-- recyclingref59.bill -/
def m_recyclingref59_bill (N : Nat) (p0 : ApiBooks) (p1 : Int) : Option ((List ApiFinding)) :=
 ck ((0 : Int) ≤ p1 ∧ p1 < (List.length p0.Bills : Int)) (
  Option.bind (m_recyclingref59_wellFormed N p0.Account (ix p0.Bills p1)) fun B => (if (!B) = true then
   some ([(ApiFinding.mk 11 p1 (-1))])
  else
   (andThen
    (Option.bind (m_recyclingref59_totalRight N (ix p0.Bills p1)) fun C => (if (!C) = true then
     ck ((List.length ([] : List ApiFinding) + List.length ([(ApiFinding.mk 10 p1 0)])) * 24 ≤ 140737488355328) (
      some (.next (([] : List ApiFinding) ++ ([(ApiFinding.mk 10 p1 0)]))))
    else
     some (.next ([] : List ApiFinding))))
   fun (G : (List ApiFinding)) =>
    (andThen
     (loopM (fun (d : (List ApiFinding) × Int) =>
      (if d.2 < (List.length ((ix p0.Bills p1).Items) : Int) then
       (andThen
        (ck ((0 : Int) ≤ d.2 ∧ d.2 < (List.length ((ix p0.Bills p1).Items) : Int)) (
         Option.bind (m_recyclingref59_itemRight N p0.Account (ix p0.Bills p1) (ix ((ix p0.Bills p1).Items) d.2)) fun l => (if (!l) = true then
          ck ((List.length d.1 + List.length ([(ApiFinding.mk 11 p1 d.2)])) * 24 ≤ 140737488355328) (
           some (.next (d.1 ++ ([(ApiFinding.mk 11 p1 d.2)]))))
         else
          some (.next d.1))))
       fun (m : (List ApiFinding)) =>
        ck (I64 (d.2 + (1 : Int))) (
         some (.next (m, (d.2 + (1 : Int))))))
      else
       some (.done (.next d.1)))) N (G, (0 : Int)))
    fun (f : (List ApiFinding)) =>
     Option.bind (m_recyclingref59_missing N p0.Account (ix p0.Bills p1) p1) fun g => ck ((List.length f + List.length g) * 24 ≤ 140737488355328) (
      Option.bind (m_recyclingref59_counting N p0.Account (ix p0.Bills p1)) fun o => (andThen
       (loopM (fun (a : (List ApiFinding) × (List Int) × Int) =>
        (if a.2.2 < (List.length ((ix p0.Bills p1).Items) : Int) then
         (andThen
          (ck ((0 : Int) ≤ a.2.2 ∧ a.2.2 < (List.length ((ix p0.Bills p1).Items) : Int)) (
           callIf ((!(decide ((ix ((ix p0.Bills p1).Items) a.2.2).Kind ≠ 2))) = true) (m_recyclingref59_in N a.2.1 ((ix ((ix p0.Bills p1).Items) a.2.2).Ref)) fun q => (if ((decide ((ix ((ix p0.Bills p1).Items) a.2.2).Kind ≠ 2)) || q) = true then
            some (.next (a.1, a.2.1))
           else
            ck ((List.length a.2.1 + List.length ([(ix ((ix p0.Bills p1).Items) a.2.2).Ref])) * 8 ≤ 140737488355328) (
             Option.bind (m_recyclingref59_belongs N p0.Account (ix p0.Bills p1) ((ix ((ix p0.Bills p1).Items) a.2.2).Ref)) fun e => callIf (e = true) (m_recyclingref59_in N o ((ix ((ix p0.Bills p1).Items) a.2.2).Ref)) fun i => callIf ((e && (!i)) = true) (m_recyclingref59_charged N (ix p0.Bills p1) ((ix ((ix p0.Bills p1).Items) a.2.2).Ref)) fun t => (if ((e && (!i)) && (decide (t ≠ 0))) = true then
              ck ((List.length a.1 + List.length ([(ApiFinding.mk 13 p1 ((ix ((ix p0.Bills p1).Items) a.2.2).Ref))])) * 24 ≤ 140737488355328) (
               some (.next ((a.1 ++ ([(ApiFinding.mk 13 p1 ((ix ((ix p0.Bills p1).Items) a.2.2).Ref))])), (a.2.1 ++ ([(ix ((ix p0.Bills p1).Items) a.2.2).Ref])))))
             else
              some (.next (a.1, (a.2.1 ++ ([(ix ((ix p0.Bills p1).Items) a.2.2).Ref])))))))))
         fun (j : (List ApiFinding) × (List Int)) =>
          ck (I64 (a.2.2 + (1 : Int))) (
           some (.next (j.1, j.2, (a.2.2 + (1 : Int))))))
        else
         some (.done (.next a.1)))) N ((f ++ g), ([] : List Int), (0 : Int)))
      fun (v : (List ApiFinding)) =>
       (andThen
        (loopM (fun (b : (List ApiFinding) × Int) =>
         (if b.2 < p1 then
          (andThen
           (ck ((0 : Int) ≤ b.2 ∧ b.2 < (List.length p0.Bills : Int)) (
            Option.bind (m_recyclingref59_wellFormed N p0.Account (ix p0.Bills b.2)) fun x => (if ((x && (decide ((ix p0.Bills b.2).Household = (ix p0.Bills p1).Household))) && (decide ((max ((ix p0.Bills b.2).When.From) ((ix p0.Bills p1).When.From)) < (min ((ix p0.Bills b.2).When.To) ((ix p0.Bills p1).When.To))))) = true then
             ck ((List.length b.1 + List.length ([(ApiFinding.mk 14 p1 b.2)])) * 24 ≤ 140737488355328) (
              some (.next (b.1 ++ ([(ApiFinding.mk 14 p1 b.2)]))))
            else
             some (.next b.1))))
          fun (y : (List ApiFinding)) =>
           ck (I64 (b.2 + (1 : Int))) (
            some (.next (y, (b.2 + (1 : Int))))))
         else
          some (.done (.next b.1)))) N (v, (0 : Int)))
       fun (z : (List ApiFinding)) =>
        some (z))))))))
set_option maxHeartbeats 2000000 in
set_option maxRecDepth 20000 in
theorem m_recyclingref59_bill_ok (N : Nat) (w0 : World) (p0 : ApiBooks) (p1 : Int) (d : Option Addr) (l : Nat) (o : Nat) (e : Option Addr) (q : Nat) (t : Nat) (f : Option Addr) (y : Nat) (B : Nat) (g : Option Addr) (C : Nat) (G : Nat) (j : Option Addr) (J : Nat) (K : Nat) (af : Option Addr) (aj : Nat) (ak : Nat) (ag : Option Addr) (al : Nat) (am : Nat) (bd : Int → Hdr) (ah : Option Addr) (an : Nat) (ao : Nat) (ai : Option Addr) (ap : Nat) (aq : Nat) (Q : Option Addr) (a2 : Nat) (a3 : Nat) (U : Option Addr) (a4 : Nat) (a5 : Nat) (X : Option Addr) (a6 : Nat) (a7 : Nat) (Y : Option Addr) (a8 : Nat) (a9 : Nat) (Z : Option Addr) (aa : Nat) (ab : Nat) (a : Int → Hdr) (a0 : Option Addr) (ac : Nat) (ad : Nat) (b1 : Int → Hdr) (b2 : RdE w0 2 encApiHousehold d p0.Account.Households) (b3 : SW d l o (List.length p0.Account.Households)) (b4 : RdE w0 5 encApiContainer e p0.Account.Containers) (b6 : SW e q t (List.length p0.Account.Containers)) (b7 : RdE w0 4 encApiAssign f p0.Account.Assigns) (b8 : SW f y B (List.length p0.Account.Assigns)) (b9 : RdE w0 7 encApiEmptying g p0.Account.Emptyings) (ba : SW g C G (List.length p0.Account.Emptyings)) (bb : RdE w0 5 encApiTariff j p0.Account.Tariffs) (bc : SW j J K (List.length p0.Account.Tariffs)) (_hr_p06 : RdE w0 4 encApiTransfer af p0.Transfers) (_hz_p06 : SW af aj ak (List.length p0.Transfers)) (_hr_p07 : RdI w0 4 (fun (i : Int) (x : ApiBale) => encApiBale x (bd i)) ag p0.Bales) (_hz_p07 : SW ag al am (List.length p0.Bales)) (_hN1_p07 : ∀ i : Int, 0 ≤ i ∧ i < (List.length p0.Bales : Int) → RdE w0 1 encI (bd i).1 (ix p0.Bales i).Mix ∧ SW (bd i).1 (bd i).2.1 (bd i).2.2 (List.length (ix p0.Bales i).Mix)) (_hr_p08 : RdE w0 5 encApiProduct ah p0.Products) (_hz_p08 : SW ah an ao (List.length p0.Products)) (_hr_p09 : RdE w0 5 encApiSale ai p0.Sales) (_hz_p09 : SW ai ap aq (List.length p0.Sales)) (_hr_p010 : RdE w0 5 encApiClaim Q p0.Claims) (_hz_p010 : SW Q a2 a3 (List.length p0.Claims)) (_hr_p011 : RdE w0 7 encApiPayout U p0.Paid) (_hz_p011 : SW U a4 a5 (List.length p0.Paid)) (_hr_p012 : RdE w0 1 encI X p0.Costs) (_hz_p012 : SW X a6 a7 (List.length p0.Costs)) (_hr_p013 : RdE w0 3 encApiFee Y p0.Fees) (_hz_p013 : SW Y a8 a9 (List.length p0.Fees)) (bg : RdI w0 6 (fun (i : Int) (x : ApiBill) => encApiBill x (a i)) Z p0.Bills) (bm : SW Z aa ab (List.length p0.Bills)) (b : ∀ i : Int, 0 ≤ i ∧ i < (List.length p0.Bills : Int) → RdE w0 5 encApiItem (a i).1 (ix p0.Bills i).Items ∧ SW (a i).1 (a i).2.1 (a i).2.2 (List.length (ix p0.Bills i).Items)) (_hr_p015 : RdI w0 3 (fun (i : Int) (x : ApiPosting) => encApiPosting x (b1 i)) a0 p0.Postings) (_hz_p015 : SW a0 ac ad (List.length p0.Postings)) (_hN1_p015 : ∀ i : Int, 0 ≤ i ∧ i < (List.length p0.Postings : Int) → RdE w0 2 encApiLine (b1 i).1 (ix p0.Postings i).Lines ∧ SW (b1 i).1 (b1 i).2.1 (b1 i).2.2 (List.length (ix p0.Postings i).Lines)) (r : (List ApiFinding)) (hr : m_recyclingref59_bill N p0 p1 = some r) :
  Ret Tryz.prog 17 [.agg #[.int .i64 p0.Now, .slice d l o, .slice e q t, .slice f y B, .slice g C G, .slice j J K, .int .i64 p0.Account.Gap, .slice af aj ak, .int .i64 p0.Inside, .int .i64 p0.Bins, .slice ag al am, .slice ah an ao, .slice ai ap aq, .slice Q a2 a3, .slice U a4 a5, .slice X a6 a7, .slice Y a8 a9, .slice Z aa ab, .slice a0 ac ad], .int .i64 p1] w0 (fun (_r : (List ApiFinding)) (u : (Option Addr) × Nat × Nat) => .slice u.1 u.2.1 u.2.2) (fun (r : (List ApiFinding)) (u : (Option Addr) × Nat × Nat) => [ownE 64 3 encApiFinding u.1 u.2.1 u.2.2 r]) r := by
 refine calls_v (n := 166) r hr Tryz.func17 ?_
 unfold m_recyclingref59_bill
 refine sr <| lm_box 2 [.int .i64 _, .slice _ _ _, .slice _ _ _, .slice _ _ _, .slice _ _ _, .slice _ _ _, .int .i64 _, .slice _ _ _, .int .i64 _, .int .i64 _, .slice _ _ _, .slice _ _ _, .slice _ _ _, .slice _ _ _, .slice _ _ _, .slice _ _ _, .slice _ _ _, .slice _ _ _, .slice _ _ _] (by kernel_rfl) rfl ?_
 intro b5
 refine la 1 ((4, .slice _ _ _) :: _) rfl <| nn <| cm_seq <| cm_ck (fun h6 => ?_)
 refine cm_held (ξ := Nat × Nat) (fun L => [(1, .int .i64 p1), (2, .pointer (some ⟨b5, 0, none⟩)), (5, .pointer (some ⟨L.1, 0, none⟩)), (6, .pointer (some ⟨L.2, 0, none⟩))]) (fun L => [blkE b5 40 [.int .i64 p0.Now, .slice d l o, .slice e q t, .slice f y B, .slice g C G, .slice j J K, .int .i64 p0.Account.Gap, .slice af aj ak, .int .i64 p0.Inside, .int .i64 p0.Bins, .slice ag al am, .slice ah an ao, .slice ai ap aq, .slice Q a2 a3, .slice U a4 a5, .slice X a6 a7, .slice Y a8 a9, .slice Z aa ab, .slice a0 ac ad], blkE L.1 28 [.slice d l o, .slice e q t, .slice f y B, .slice g C G, .slice j J K, .int .i64 p0.Account.Gap], blkE L.2 52 [.int .i64 ((ix p0.Bills p1).ID), .int .i64 ((ix p0.Bills p1).Household), .int .i64 ((ix p0.Bills p1).When.From), .int .i64 ((ix p0.Bills p1).When.To), .slice ((a p1).1) ((a p1).2.1) ((a p1).2.2), .int .i64 ((ix p0.Bills p1).Total)]]) [blkE b5 40 [.int .i64 p0.Now, .slice d l o, .slice e q t, .slice f y B, .slice g C G, .slice j J K, .int .i64 p0.Account.Gap, .slice af aj ak, .int .i64 p0.Inside, .int .i64 p0.Bins, .slice ag al am, .slice ah an ao, .slice ai ap aq, .slice Q a2 a3, .slice U a4 a5, .slice X a6 a7, .slice Y a8 a9, .slice Z aa ab, .slice a0 ac ad]] 11 (by kernel_rfl) (by rfl) (hsub [0] (by kernel_rfl) (by rfl)) ?_ ?_
 ·intro en bi
  refine wh_take 0 15 rfl (by kernel_rfl) (by kernel_rfl) (fun w2 c2 => (op_fieldL (m := 1) (k := 1) rfl (by kernel_rfl) rfl)) (hsub [0] (by kernel_rfl) rfl _ bi) <| wh_take 1 16 rfl (by kernel_rfl) (by kernel_rfl) (fun w2 c2 => (op_loadR [.slice _ _ _, .slice _ _ _, .slice _ _ _, .slice _ _ _, .slice _ _ _, .int .i64 _] rfl (by kernel_rfl) (c2.cells 0 rfl rfl))) (hsub [0] (by kernel_rfl) rfl _ bi) <| wh_take 2 17 rfl (by kernel_rfl) (by kernel_rfl) (fun w2 c2 => (op_fieldL (m := 17) (k := 17) rfl (by kernel_rfl) rfl)) (hsub [0] (by kernel_rfl) rfl _ bi) <| wh_take 3 18 rfl (by kernel_rfl) (by kernel_rfl) (fun w2 c2 => (op_load rfl (by kernel_rfl) (c2.cell 0 (u := .slice _ _ _) rfl rfl))) (hsub [0] (by kernel_rfl) rfl _ bi) <| wh_take 4 19 rfl (by kernel_rfl) (by kernel_rfl) (fun w2 c2 => (op_move (v := .int .i64 _) rfl)) (hsub [0] (by kernel_rfl) rfl _ bi) <| wh_take 5 20 rfl (by kernel_rfl) (by kernel_rfl) (fun w2 c2 => (op_indexA 6 rfl rfl (by kernel_rfl) ((bg.old c2).addr h6.1 h6.2) bm.2.2 h6.1 h6.2)) (hsub [0] (by kernel_rfl) rfl _ bi) <| wh_take 6 21 rfl (by kernel_rfl) (by kernel_rfl) (fun w2 c2 => (op_loadR [.int .i64 ((ix p0.Bills p1).ID), .int .i64 ((ix p0.Bills p1).Household), .int .i64 ((ix p0.Bills p1).When.From), .int .i64 ((ix p0.Bills p1).When.To), .slice ((a p1).1) ((a p1).2.1) ((a p1).2.2), .int .i64 ((ix p0.Bills p1).Total)] rfl (by kernel_rfl) ((bg.old c2).row h6.1 h6.2))) (hsub [0] (by kernel_rfl) rfl _ bi) <| wh_ready [7, 8] (by kernel_rfl) rfl ⟨?_, ?_, trivial⟩
  ·refine ws_alloc 5 [.slice none 0 0, .slice none 0 0, .slice none 0 0, .slice none 0 0, .slice none 0 0, .int .i64 0] (v := .agg #[.slice none 0 0, .slice none 0 0, .slice none 0 0, .slice none 0 0, .slice none 0 0, .int .i64 0]) rfl (by kernel_rfl) (by kernel_rfl) rfl bi ?_
   intro dl eo cb
   refine ⟨(hsub [1] (by kernel_rfl) rfl _ cb), ?_⟩
   refine wh_ready [8] (by kernel_rfl) rfl ⟨?_, trivial⟩
   refine ws_alloc 6 [.int .i64 0, .int .i64 0, .int .i64 0, .int .i64 0, .slice none 0 0, .int .i64 0] (v := .agg #[.int .i64 0, .int .i64 0, .int .i64 0, .int .i64 0, .slice none 0 0, .int .i64 0]) rfl (by kernel_rfl) (by kernel_rfl) rfl cb ?_
   intro dm ep cc
   refine ⟨(hsub [2] (by kernel_rfl) rfl _ cc), ?_⟩
   refine wh_ready [9] (by kernel_rfl) rfl ⟨?_, trivial⟩
   refine ws_storeA 1 [.slice _ _ _, .slice _ _ _, .slice _ _ _, .slice _ _ _, .slice _ _ _, .int .i64 _] [_, _, _, _, _, _] rfl (by kernel_rfl) rfl rfl (by kernel_rfl) rfl rfl (by kernel_rfl) rfl (H' := [_, blkE _ _ [_, _, _, _, _, _], _]) rfl cc ?_
   intro eq cd
   refine ⟨(hsub [2] (by kernel_rfl) rfl _ cd), ?_⟩
   refine wh_ready [10] (by kernel_rfl) rfl ⟨?_, trivial⟩
   refine ws_storeA 0 [.int .i64 _, .int .i64 _, .int .i64 _, .int .i64 _, .slice _ _ _, .int .i64 _] [_, _, _, _, _, _] rfl (by kernel_rfl) rfl rfl (by kernel_rfl) rfl rfl (by kernel_rfl) rfl (H' := [blkE _ _ [_, _, _, _, _, _], _, _]) rfl cd ?_
   intro er ce
   refine ⟨(hsub [2] (by kernel_rfl) rfl _ ce), ?_⟩
   exact wh_done (dl, dm) (by kernel_rfl) sq (hsub [2, 1, 0] (by kernel_rfl) rfl _ ce)
  ·refine ws_alloc 6 [.int .i64 0, .int .i64 0, .int .i64 0, .int .i64 0, .slice none 0 0, .int .i64 0] (v := .agg #[.int .i64 0, .int .i64 0, .int .i64 0, .int .i64 0, .slice none 0 0, .int .i64 0]) rfl (by kernel_rfl) (by kernel_rfl) rfl bi ?_
   intro dn es cf
   refine ⟨(hsub [1] (by kernel_rfl) rfl _ cf), ?_⟩
   refine wh_ready [7] (by kernel_rfl) rfl ⟨?_, trivial⟩
   refine ws_alloc 5 [.slice none 0 0, .slice none 0 0, .slice none 0 0, .slice none 0 0, .slice none 0 0, .int .i64 0] (v := .agg #[.slice none 0 0, .slice none 0 0, .slice none 0 0, .slice none 0 0, .slice none 0 0, .int .i64 0]) rfl (by kernel_rfl) (by kernel_rfl) rfl cf ?_
   intro dp et cg
   refine ⟨(hsub [2] (by kernel_rfl) rfl _ cg), ?_⟩
   refine wh_ready [9] (by kernel_rfl) rfl ⟨?_, trivial⟩
   refine ws_storeA 0 [.slice _ _ _, .slice _ _ _, .slice _ _ _, .slice _ _ _, .slice _ _ _, .int .i64 _] [_, _, _, _, _, _] rfl (by kernel_rfl) rfl rfl (by kernel_rfl) rfl rfl (by kernel_rfl) rfl (H' := [blkE _ _ [_, _, _, _, _, _], _, _]) rfl cg ?_
   intro eu ch
   refine ⟨(hsub [2] (by kernel_rfl) rfl _ ch), ?_⟩
   refine wh_ready [10] (by kernel_rfl) rfl ⟨?_, trivial⟩
   refine ws_storeA 1 [.int .i64 _, .int .i64 _, .int .i64 _, .int .i64 _, .slice _ _ _, .int .i64 _] [_, _, _, _, _, _] rfl (by kernel_rfl) rfl rfl (by kernel_rfl) rfl rfl (by kernel_rfl) rfl (H' := [_, blkE _ _ [_, _, _, _, _, _], _]) rfl ch ?_
   intro ev ci
   refine ⟨(hsub [2] (by kernel_rfl) rfl _ ci), ?_⟩
   exact wh_done (dp, dn) (by kernel_rfl) sq (hsub [2, 0, 1] (by kernel_rfl) rfl _ ci)
 intro L
 refine xm_next <| cm_seq <| sr <| v_ 22 (fun _ c1 => oR [.slice _ _ _, .slice _ _ _, .slice _ _ _, .slice _ _ _, .slice _ _ _, .int .i64 _] (c1.cells 1 rfl rfl)) <| v_ 23 (fun _ c1 => oR [.int .i64 _, .int .i64 _, .int .i64 _, .int .i64 _, .slice _ _ _, .int .i64 _] (c1.cells 2 rfl rfl)) <| lm_call 24 (V := (fun (r : Bool) (_u : Unit) => .bool r)) (HR := (fun (_r : Bool) (_u : Unit) => [])) (by kernel_rfl) (fun w1 => op_call (by kernel_rfl)) (fun r1 hr1 w1 c1 => m_recyclingref59_wellFormed_ok N w1 p0.Account (ix p0.Bills p1) d l o e q t f y B g C G j J K ((a p1).1) ((a p1).2.1) ((a p1).2.2) (b2.old c1) b3 (b4.old c1) b6 (b7.old c1) b8 (b9.old c1) ba (bb.old c1) bc ((b p1 h6).1.old c1) (b p1 h6).2 r1 hr1) ?_
 intro ew ex
 refine la 1 ((25, .bool _) :: _) rfl <| nn <| cm_condB (by kernel_rfl) rfl (fun dq => ?_) (fun dq => ?_)
 ·refine sr <| la 1 ((26, .int .i64 _) :: _) rfl <| v_ 27 (fun _ _ => op_build (z := [.int .i64 0, .int .i64 0, .int .i64 0]) (tab := [(0, 1), (1, 1), (2, 1)]) (cs := [.int .i64 _, .int .i64 _, .int .i64 _]) [(0, [.int .i64 _]), (1, [.int .i64 _]), (2, [.int .i64 _])] (by kernel_rfl) (by kernel_rfl) (fillOk_cons rfl rfl rfl (fillOk_cons rfl rfl rfl (fillOk_cons rfl rfl rfl fillOk_nil))) rfl) <| lm_slice1 28 (el := 64) (sz := 3) (bytes := 24) (enc := encApiFinding) (ApiFinding.mk 11 p1 (-1)) (by kernel_rfl) (by kernel_rfl) encApiFinding_len rfl (by kernel_rfl) ?_
  intro dr ds dt ey
  refine la 1 ((4, .slice _ _ _) :: _) rfl <| nn <| cm_ret <| xm_thenR ?_
  exact xm_retT rfl (by kernel_rfl) (show _ = Value.slice _ _ _ from rfl) fun w1 c1 => ⟨(dr, ds, dt), rfl, hsub [0] (by kernel_rfl) rfl w1 c1⟩
 ·refine sk <| sr <| lm_slice0 29 (el := 64) (sz := 3) (bytes := 24) (enc := encApiFinding) (by kernel_rfl) (by kernel_rfl) ?_
  intro du dv dw ez
  refine la 1 ((7, .slice _ _ _) :: _) rfl <| nn <| cm_join (σ := (List ApiFinding)) (ξ := (Option Addr) × Nat × Nat) (fun bz be => [(1, .int .i64 p1), (2, .pointer (some ⟨b5, 0, none⟩)), (5, .pointer (some ⟨L.1, 0, none⟩)), (6, .pointer (some ⟨L.2, 0, none⟩)), (7, .slice be.1 be.2.1 be.2.2)]) (fun bz be => [blkE b5 40 [.int .i64 p0.Now, .slice d l o, .slice e q t, .slice f y B, .slice g C G, .slice j J K, .int .i64 p0.Account.Gap, .slice af aj ak, .int .i64 p0.Inside, .int .i64 p0.Bins, .slice ag al am, .slice ah an ao, .slice ai ap aq, .slice Q a2 a3, .slice U a4 a5, .slice X a6 a7, .slice Y a8 a9, .slice Z aa ab, .slice a0 ac ad], blkE L.1 28 [.slice d l o, .slice e q t, .slice f y B, .slice g C G, .slice j J K, .int .i64 p0.Account.Gap], blkE L.2 52 [.int .i64 ((ix p0.Bills p1).ID), .int .i64 ((ix p0.Bills p1).Household), .int .i64 ((ix p0.Bills p1).When.From), .int .i64 ((ix p0.Bills p1).When.To), .slice ((a p1).1) ((a p1).2.1) ((a p1).2.2), .int .i64 ((ix p0.Bills p1).Total)], ownE 64 3 encApiFinding be.1 be.2.1 be.2.2 bz]) ?_ ?_
  ·refine sr <| v_ 30 (fun _ c1 => oR [.int .i64 _, .int .i64 _, .int .i64 _, .int .i64 _, .slice _ _ _, .int .i64 _] (c1.cells 3 rfl rfl)) <| lm_call 31 (V := (fun (r : Bool) (_u : Unit) => .bool r)) (HR := (fun (_r : Bool) (_u : Unit) => [])) (by kernel_rfl) (fun w1 => op_call (by kernel_rfl)) (fun r1 hr1 w1 c1 => m_recyclingref59_totalRight_ok N w1 (ix p0.Bills p1) ((a p1).1) ((a p1).2.1) ((a p1).2.2) ((b p1 h6).1.old c1) (b p1 h6).2 r1 hr1) ?_
   intro f0 f1
   refine la 1 ((32, .bool _) :: _) rfl <| nn <| cm_condB (by kernel_rfl) rfl (fun dx => ?_) (fun dx => ?_)
   ·refine cm_region <| la 2 ((34, .int .i64 _) :: (33, .slice _ _ _) :: _) rfl <| v_ 35 (fun _ _ => op_build (z := [.int .i64 0, .int .i64 0, .int .i64 0]) (tab := [(0, 1), (1, 1), (2, 1)]) (cs := [.int .i64 _, .int .i64 _, .int .i64 _]) [(0, [.int .i64 _]), (1, [.int .i64 _])] (by kernel_rfl) (by kernel_rfl) (fillOk_cons rfl rfl rfl (fillOk_cons rfl rfl rfl fillOk_nil)) rfl) <| lm_slice1 36 (el := 64) (sz := 3) (bytes := 24) (enc := encApiFinding) (ApiFinding.mk 10 p1 0) (by kernel_rfl) (by kernel_rfl) encApiFinding_len rfl (by kernel_rfl) ?_
    intro f2 f3 f4 f5
    refine lm_ck (fun dy => ?_)
    refine lm_append 37 1 (el := 64) (sz := 3) (bytes := 24) (enc := encApiFinding) (l2 := ([(ApiFinding.mk 10 p1 0)])) (by kernel_rfl) (by kernel_rfl) encApiFinding_len encApiFinding_one rfl rfl rfl (fun w1 c1 => (c1.ownZ 0 rfl)) (fun w1 c1 => (c1.own 0 rfl encApiFinding_len)) dy ?_ (by kernel_rfl)
    intro dz e0 e1
    refine la 1 ((7, .slice _ _ _) :: _) rfl <| lm_nil ?_
    exact xm_lnext (dz, e0, e1) sq (sh [2, 3, 4, 1])
   ·refine cm_skip ?_
    exact xm_lnext (du, dv, dw) sq (sh [1, 2, 3, 0])
  intro bz be
  refine cm_join (σ := (List ApiFinding)) (ξ := (Option Addr) × Nat × Nat) (fun br bf => [(1, .int .i64 p1), (2, .pointer (some ⟨b5, 0, none⟩)), (5, .pointer (some ⟨L.1, 0, none⟩)), (6, .pointer (some ⟨L.2, 0, none⟩)), (7, .slice bf.1 bf.2.1 bf.2.2)]) (fun br bf => [blkE b5 40 [.int .i64 p0.Now, .slice d l o, .slice e q t, .slice f y B, .slice g C G, .slice j J K, .int .i64 p0.Account.Gap, .slice af aj ak, .int .i64 p0.Inside, .int .i64 p0.Bins, .slice ag al am, .slice ah an ao, .slice ai ap aq, .slice Q a2 a3, .slice U a4 a5, .slice X a6 a7, .slice Y a8 a9, .slice Z aa ab, .slice a0 ac ad], blkE L.1 28 [.slice d l o, .slice e q t, .slice f y B, .slice g C G, .slice j J K, .int .i64 p0.Account.Gap], blkE L.2 52 [.int .i64 ((ix p0.Bills p1).ID), .int .i64 ((ix p0.Bills p1).Household), .int .i64 ((ix p0.Bills p1).When.From), .int .i64 ((ix p0.Bills p1).When.To), .slice ((a p1).1) ((a p1).2.1) ((a p1).2.2), .int .i64 ((ix p0.Bills p1).Total)], ownE 64 3 encApiFinding bf.1 bf.2.1 bf.2.2 br]) ?_ ?_
  ·refine sr <| la 1 ((8, .int .i64 _) :: _) rfl <| nn <| cm_block <| cm_loop (σ := (List ApiFinding) × Int) (ξ := (Option Addr) × Nat × Nat) (fun aw au => [(1, .int .i64 p1), (2, .pointer (some ⟨b5, 0, none⟩)), (5, .pointer (some ⟨L.1, 0, none⟩)), (6, .pointer (some ⟨L.2, 0, none⟩)), (7, .slice au.1 au.2.1 au.2.2), (8, .int .i64 aw.2)]) (fun aw au => [blkE b5 40 [.int .i64 p0.Now, .slice d l o, .slice e q t, .slice f y B, .slice g C G, .slice j J K, .int .i64 p0.Account.Gap, .slice af aj ak, .int .i64 p0.Inside, .int .i64 p0.Bins, .slice ag al am, .slice ah an ao, .slice ai ap aq, .slice Q a2 a3, .slice U a4 a5, .slice X a6 a7, .slice Y a8 a9, .slice Z aa ab, .slice a0 ac ad], blkE L.1 28 [.slice d l o, .slice e q t, .slice f y B, .slice g C G, .slice j J K, .int .i64 p0.Account.Gap], blkE L.2 52 [.int .i64 ((ix p0.Bills p1).ID), .int .i64 ((ix p0.Bills p1).Household), .int .i64 ((ix p0.Bills p1).When.From), .int .i64 ((ix p0.Bills p1).When.To), .slice ((a p1).1) ((a p1).2.1) ((a p1).2.2), .int .i64 ((ix p0.Bills p1).Total)], ownE 64 3 encApiFinding au.1 au.2.1 au.2.2 aw.1]) (be.1, be.2.1, be.2.2) ?_ ?_ ?_
   ·exact sq
   ·exact sh [0, 1, 2, 3]
   intro aw au
   refine cm_seq <| sr <| la 1 ((38, .int .i64 _) :: _) rfl <| v_ 39 (fun _ _ => oF 4 4 rfl) <| v_ 40 (fun _ c1 => oL (c1.cell 2 (u := .slice _ _ _) rfl rfl)) <| v_ 41 (fun _ _ => op_lenN rfl (by kernel_rfl) (b p1 h6).2.2.2) <| la 1 ((42, .bool _) :: _) rfl <| nn <| cm_cond (by kernel_rfl) rfl (fun cj => ?_) (fun cj => ?_)
   ·refine sk <| cm_join (σ := (List ApiFinding)) (ξ := (Option Addr) × Nat × Nat) (fun bs ax => [(1, .int .i64 p1), (2, .pointer (some ⟨b5, 0, none⟩)), (5, .pointer (some ⟨L.1, 0, none⟩)), (6, .pointer (some ⟨L.2, 0, none⟩)), (7, .slice ax.1 ax.2.1 ax.2.2), (8, .int .i64 aw.2)]) (fun bs ax => [blkE b5 40 [.int .i64 p0.Now, .slice d l o, .slice e q t, .slice f y B, .slice g C G, .slice j J K, .int .i64 p0.Account.Gap, .slice af aj ak, .int .i64 p0.Inside, .int .i64 p0.Bins, .slice ag al am, .slice ah an ao, .slice ai ap aq, .slice Q a2 a3, .slice U a4 a5, .slice X a6 a7, .slice Y a8 a9, .slice Z aa ab, .slice a0 ac ad], blkE L.1 28 [.slice d l o, .slice e q t, .slice f y B, .slice g C G, .slice j J K, .int .i64 p0.Account.Gap], blkE L.2 52 [.int .i64 ((ix p0.Bills p1).ID), .int .i64 ((ix p0.Bills p1).Household), .int .i64 ((ix p0.Bills p1).When.From), .int .i64 ((ix p0.Bills p1).When.To), .slice ((a p1).1) ((a p1).2.1) ((a p1).2.2), .int .i64 ((ix p0.Bills p1).Total)], ownE 64 3 encApiFinding ax.1 ax.2.1 ax.2.2 bs]) ?_ ?_
    ·refine cm_block <| cm_seq <| cm_ck (fun bk => ?_)
     refine cm_bind fun c0 ck => cm_drawn [(53, .bool (!c0))] (by kernel_rfl) (by kernel_rfl) ?_ ?_
     ·refine q_ 45 (fun _ c1 => oR [.slice _ _ _, .slice _ _ _, .slice _ _ _, .slice _ _ _, .slice _ _ _, .int .i64 _] (c1.cells 1 rfl rfl)) <| q_ 46 (fun _ c1 => oR [.int .i64 _, .int .i64 _, .int .i64 _, .int .i64 _, .slice _ _ _, .int .i64 _] (c1.cells 2 rfl rfl)) <| q_ 47 (fun _ _ => oF 4 4 rfl) <| q_ 48 (fun _ c1 => oL (c1.cell 2 (u := .slice _ _ _) rfl rfl)) <| qa 1 ((49, .int .i64 _) :: _) rfl <| q_ 50 (fun _ c1 => oI 5 rfl rfl (((b p1 h6).1.old c1).addr bk.1 bk.2) (b p1 h6).2.2.2 bk) <| q_ 51 (fun _ c1 => oR [.int .i64 ((ix ((ix p0.Bills p1).Items) aw.2).Kind), .int .i64 ((ix ((ix p0.Bills p1).Items) aw.2).Ref), .int .i64 ((ix ((ix p0.Bills p1).Items) aw.2).Count), .int .i64 ((ix ((ix p0.Bills p1).Items) aw.2).Price), .int .i64 ((ix ((ix p0.Bills p1).Items) aw.2).Amount)] (((b p1 h6).1.old c1).row bk.1 bk.2)) <| wq_call 52 (by kernel_rfl) (fun w1 c1 => op_call (by kernel_rfl)) (fun w1 c1 => (m_recyclingref59_itemRight_ok N w1 p0.Account (ix p0.Bills p1) (ix ((ix p0.Bills p1).Items) aw.2) d l o e q t f y B g C G j J K ((a p1).1) ((a p1).2.1) ((a p1).2.2) (b2.old c1) b3 (b4.old c1) b6 (b7.old c1) b8 (b9.old c1) ba (bb.old c1) bc ((b p1 h6).1.old c1) (b p1 h6).2 c0 ck).mono (fun _ _ ⟨_, hx, hu⟩ => ⟨hx, c1.call hu⟩)) <| qa 1 ((53, .bool _) :: _) rfl ?_
      exact lq 9
     refine xm_next <| cm_condB (by kernel_rfl) rfl (fun cl => ?_) (fun cl => ?_)
     ·refine cm_region <| la 3 ((56, .int .i64 _) :: (55, .int .i64 _) :: (54, .slice _ _ _) :: _) rfl <| v_ 57 (fun _ _ => op_build (z := [.int .i64 0, .int .i64 0, .int .i64 0]) (tab := [(0, 1), (1, 1), (2, 1)]) (cs := [.int .i64 _, .int .i64 _, .int .i64 _]) [(0, [.int .i64 _]), (1, [.int .i64 _]), (2, [.int .i64 _])] (by kernel_rfl) (by kernel_rfl) (fillOk_cons rfl rfl rfl (fillOk_cons rfl rfl rfl (fillOk_cons rfl rfl rfl fillOk_nil))) rfl) <| lm_slice1 58 (el := 64) (sz := 3) (bytes := 24) (enc := encApiFinding) (ApiFinding.mk 11 p1 aw.2) (by kernel_rfl) (by kernel_rfl) encApiFinding_len rfl (by kernel_rfl) ?_
      intro e2 e3 e4 e5
      refine lm_ck (fun cm => ?_)
      refine lm_append 59 4 (el := 64) (sz := 3) (bytes := 24) (enc := encApiFinding) (l2 := ([(ApiFinding.mk 11 p1 aw.2)])) (by kernel_rfl) (by kernel_rfl) encApiFinding_len encApiFinding_one rfl rfl rfl (fun w1 c1 => (c1.ownZ 0 rfl)) (fun w1 c1 => (c1.own 0 rfl encApiFinding_len)) cm ?_ (by kernel_rfl)
      intro cn co cp
      refine la 1 ((7, .slice _ _ _) :: _) rfl <| lm_nil <| xm_inN ?_
      exact xm_lnext (cn, co, cp) sq (sh [1, 2, 3, 4])
     ·refine cm_skip <| xm_inN ?_
      exact xm_lnext (au.1, au.2.1, au.2.2) sq (sh [0, 1, 2, 3])
    intro bs ax
    refine cm_region <| la 1 ((43, .int .i64 _) :: _) rfl <| lm_ck (fun cq => ?_)
    refine v_ 44 (fun _ _ => op_add rfl rfl cq) <| la 1 ((8, .int .i64 _) :: _) rfl <| lm_nil ?_
    exact xm_lnext (ax.1, ax.2.1, ax.2.2) sq (sh [0, 1, 2, 3])
   ·refine cm_exit <| xm_thenE <| xm_lexit <| xm_here ?_
    exact xm_lnext (au.1, au.2.1, au.2.2) sq (sh [0, 1, 2, 3])
  intro br bf
  refine sr <| la 1 ((60, .slice _ _ _) :: _) rfl <| v_ 61 (fun _ c1 => oR [.slice _ _ _, .slice _ _ _, .slice _ _ _, .slice _ _ _, .slice _ _ _, .int .i64 _] (c1.cells 1 rfl rfl)) <| v_ 62 (fun _ c1 => oR [.int .i64 _, .int .i64 _, .int .i64 _, .int .i64 _, .slice _ _ _, .int .i64 _] (c1.cells 2 rfl rfl)) <| la 1 ((63, .int .i64 _) :: _) rfl <| lm_call 64 (V := (fun (_r : (List ApiFinding)) (u : (Option Addr) × Nat × Nat) => .slice u.1 u.2.1 u.2.2)) (HR := (fun (r : (List ApiFinding)) (u : (Option Addr) × Nat × Nat) => [ownE 64 3 encApiFinding u.1 u.2.1 u.2.2 r])) (by kernel_rfl) (fun w1 => op_call (by kernel_rfl)) (fun r1 hr1 w1 c1 => m_recyclingref59_missing_ok N w1 p0.Account (ix p0.Bills p1) p1 d l o e q t f y B g C G j J K ((a p1).1) ((a p1).2.1) ((a p1).2.2) (b2.old c1) b3 (b4.old c1) b6 (b7.old c1) b8 (b9.old c1) ba (bb.old c1) bc ((b p1 h6).1.old c1) (b p1 h6).2 r1 hr1) ?_
  intro cr e6
  refine lm_ck (fun ct => ?_)
  refine lm_append 65 4 (el := 64) (sz := 3) (bytes := 24) (enc := encApiFinding) (l2 := cr) (by kernel_rfl) (by kernel_rfl) encApiFinding_len encApiFinding_one rfl rfl rfl (fun w1 c1 => (c1.ownZ 0 rfl)) (fun w1 c1 => (c1.own 0 rfl encApiFinding_len)) ct ?_ (by kernel_rfl)
  intro cu cv cw
  refine la 1 ((7, .slice _ _ _) :: _) rfl <| nn <| sr <| v_ 66 (fun _ c1 => oR [.slice _ _ _, .slice _ _ _, .slice _ _ _, .slice _ _ _, .slice _ _ _, .int .i64 _] (c1.cells 2 rfl rfl)) <| v_ 67 (fun _ c1 => oR [.int .i64 _, .int .i64 _, .int .i64 _, .int .i64 _, .slice _ _ _, .int .i64 _] (c1.cells 3 rfl rfl)) <| lm_call 68 (V := (fun (_r : (List Int)) (u : (Option Addr) × Nat × Nat) => .slice u.1 u.2.1 u.2.2)) (HR := (fun (r : (List Int)) (u : (Option Addr) × Nat × Nat) => [ownE 3 1 encI u.1 u.2.1 u.2.2 r])) (by kernel_rfl) (fun w1 => op_call (by kernel_rfl)) (fun r1 hr1 w1 c1 => m_recyclingref59_counting_ok N w1 p0.Account (ix p0.Bills p1) d l o e q t f y B g C G j J K ((a p1).1) ((a p1).2.1) ((a p1).2.2) (b2.old c1) b3 (b4.old c1) b6 (b7.old c1) b8 (b9.old c1) ba (bb.old c1) bc ((b p1 h6).1.old c1) (b p1 h6).2 r1 hr1) ?_
  intro bt ar
  refine la 1 ((9, .slice _ _ _) :: _) rfl <| nn <| sr <| lm_slice0 69 (el := 3) (sz := 1) (bytes := 8) (enc := encI) (by kernel_rfl) (by kernel_rfl) ?_
  intro cx cy cz e7
  refine la 1 ((10, .slice _ _ _) :: _) rfl <| nn <| cm_join (σ := (List ApiFinding)) (ξ := (Option Addr) × Nat × Nat) (fun bu ay => [(1, .int .i64 p1), (2, .pointer (some ⟨b5, 0, none⟩)), (5, .pointer (some ⟨L.1, 0, none⟩)), (6, .pointer (some ⟨L.2, 0, none⟩)), (7, .slice ay.1 ay.2.1 ay.2.2)]) (fun bu ay => [blkE b5 40 [.int .i64 p0.Now, .slice d l o, .slice e q t, .slice f y B, .slice g C G, .slice j J K, .int .i64 p0.Account.Gap, .slice af aj ak, .int .i64 p0.Inside, .int .i64 p0.Bins, .slice ag al am, .slice ah an ao, .slice ai ap aq, .slice Q a2 a3, .slice U a4 a5, .slice X a6 a7, .slice Y a8 a9, .slice Z aa ab, .slice a0 ac ad], blkE L.1 28 [.slice d l o, .slice e q t, .slice f y B, .slice g C G, .slice j J K, .int .i64 p0.Account.Gap], blkE L.2 52 [.int .i64 ((ix p0.Bills p1).ID), .int .i64 ((ix p0.Bills p1).Household), .int .i64 ((ix p0.Bills p1).When.From), .int .i64 ((ix p0.Bills p1).When.To), .slice ((a p1).1) ((a p1).2.1) ((a p1).2.2), .int .i64 ((ix p0.Bills p1).Total)], ownE 64 3 encApiFinding ay.1 ay.2.1 ay.2.2 bu]) ?_ ?_
  ·refine sr <| la 1 ((11, .int .i64 _) :: _) rfl <| nn <| cm_block <| cm_loop (σ := (List ApiFinding) × (List Int) × Int) (ξ := (Option Addr) × Nat × Nat × (Option Addr) × Nat × Nat) (fun a1 M => [(1, .int .i64 p1), (2, .pointer (some ⟨b5, 0, none⟩)), (5, .pointer (some ⟨L.1, 0, none⟩)), (6, .pointer (some ⟨L.2, 0, none⟩)), (7, .slice M.1 M.2.1 M.2.2.1), (9, .slice ar.1 ar.2.1 ar.2.2), (10, .slice M.2.2.2.1 M.2.2.2.2.1 M.2.2.2.2.2), (11, .int .i64 a1.2.2)]) (fun a1 M => [blkE b5 40 [.int .i64 p0.Now, .slice d l o, .slice e q t, .slice f y B, .slice g C G, .slice j J K, .int .i64 p0.Account.Gap, .slice af aj ak, .int .i64 p0.Inside, .int .i64 p0.Bins, .slice ag al am, .slice ah an ao, .slice ai ap aq, .slice Q a2 a3, .slice U a4 a5, .slice X a6 a7, .slice Y a8 a9, .slice Z aa ab, .slice a0 ac ad], blkE L.1 28 [.slice d l o, .slice e q t, .slice f y B, .slice g C G, .slice j J K, .int .i64 p0.Account.Gap], blkE L.2 52 [.int .i64 ((ix p0.Bills p1).ID), .int .i64 ((ix p0.Bills p1).Household), .int .i64 ((ix p0.Bills p1).When.From), .int .i64 ((ix p0.Bills p1).When.To), .slice ((a p1).1) ((a p1).2.1) ((a p1).2.2), .int .i64 ((ix p0.Bills p1).Total)], ownE 64 3 encApiFinding M.1 M.2.1 M.2.2.1 a1.1, ownE 3 1 encI ar.1 ar.2.1 ar.2.2 bt, ownE 3 1 encI M.2.2.2.1 M.2.2.2.2.1 M.2.2.2.2.2 a1.2.1]) (cu, cv, cw, cx, cy, cz) ?_ ?_ ?_
   ·exact sq
   ·exact sh [3, 4, 5, 6, 1, 0]
   intro a1 M
   refine cm_seq <| sr <| la 1 ((70, .int .i64 _) :: _) rfl <| v_ 71 (fun _ _ => oF 4 4 rfl) <| v_ 72 (fun _ c1 => oL (c1.cell 2 (u := .slice _ _ _) rfl rfl)) <| v_ 73 (fun _ _ => op_lenN rfl (by kernel_rfl) (b p1 h6).2.2.2) <| la 1 ((74, .bool _) :: _) rfl <| nn <| cm_cond (by kernel_rfl) rfl (fun d0 => ?_) (fun d0 => ?_)
   ·refine sk <| cm_join (σ := (List ApiFinding) × (List Int)) (ξ := (Option Addr) × Nat × Nat × (Option Addr) × Nat × Nat) (fun bn ae => [(1, .int .i64 p1), (2, .pointer (some ⟨b5, 0, none⟩)), (5, .pointer (some ⟨L.1, 0, none⟩)), (6, .pointer (some ⟨L.2, 0, none⟩)), (7, .slice ae.1 ae.2.1 ae.2.2.1), (9, .slice ar.1 ar.2.1 ar.2.2), (10, .slice ae.2.2.2.1 ae.2.2.2.2.1 ae.2.2.2.2.2), (11, .int .i64 a1.2.2)]) (fun bn ae => [blkE b5 40 [.int .i64 p0.Now, .slice d l o, .slice e q t, .slice f y B, .slice g C G, .slice j J K, .int .i64 p0.Account.Gap, .slice af aj ak, .int .i64 p0.Inside, .int .i64 p0.Bins, .slice ag al am, .slice ah an ao, .slice ai ap aq, .slice Q a2 a3, .slice U a4 a5, .slice X a6 a7, .slice Y a8 a9, .slice Z aa ab, .slice a0 ac ad], blkE L.1 28 [.slice d l o, .slice e q t, .slice f y B, .slice g C G, .slice j J K, .int .i64 p0.Account.Gap], blkE L.2 52 [.int .i64 ((ix p0.Bills p1).ID), .int .i64 ((ix p0.Bills p1).Household), .int .i64 ((ix p0.Bills p1).When.From), .int .i64 ((ix p0.Bills p1).When.To), .slice ((a p1).1) ((a p1).2.1) ((a p1).2.2), .int .i64 ((ix p0.Bills p1).Total)], ownE 64 3 encApiFinding ae.1 ae.2.1 ae.2.2.1 bn.1, ownE 3 1 encI ar.1 ar.2.1 ar.2.2 bt, ownE 3 1 encI ae.2.2.2.1 ae.2.2.2.2.1 ae.2.2.2.2.2 bn.2]) ?_ ?_
    ·refine cm_block <| sr <| v_ 77 (fun _ _ => oF 4 4 rfl) <| v_ 78 (fun _ c1 => oL (c1.cell 2 (u := .slice _ _ _) rfl rfl)) <| la 1 ((79, .int .i64 _) :: _) rfl <| lm_ck (fun bl => ?_)
     refine v_ 80 (fun _ c1 => oI 5 rfl rfl (((b p1 h6).1.old c1).addr bl.1 bl.2) (b p1 h6).2.2.2 bl) <| v_ 81 (fun _ c1 => oR [.int .i64 ((ix ((ix p0.Bills p1).Items) a1.2.2).Kind), .int .i64 ((ix ((ix p0.Bills p1).Items) a1.2.2).Ref), .int .i64 ((ix ((ix p0.Bills p1).Items) a1.2.2).Count), .int .i64 ((ix ((ix p0.Bills p1).Items) a1.2.2).Price), .int .i64 ((ix ((ix p0.Bills p1).Items) a1.2.2).Amount)] (((b p1 h6).1.old c1).row bl.1 bl.2)) <| lm_alloc 12 [.int .i64 0, .int .i64 0, .int .i64 0, .int .i64 0, .int .i64 0] (v := .agg #[.int .i64 0, .int .i64 0, .int .i64 0, .int .i64 0, .int .i64 0]) (by kernel_rfl) (by kernel_rfl) rfl ?_
     intro e8
     refine lm_storeA 0 [.int .i64 _, .int .i64 _, .int .i64 _, .int .i64 _, .int .i64 _] [_, _, _, _, _] (H' := [blkE _ _ [_, _, _, _, _], _, _, _, _, _, _]) (by kernel_rfl) rfl rfl (by kernel_rfl) rfl rfl (by kernel_rfl) rfl rfl <| nn <| cm_seq <| cm_seq <| cm_callIf fun c3 d1 => cm_cutE [(90, .bool ((decide ((ix ((ix p0.Bills p1).Items) a1.2.2).Kind ≠ 2)) || c3))] ?_ ?_
     ·refine q_ 82 (fun _ _ => oF 0 0 rfl) <| q_ 83 (fun _ c1 => oL (c1.cell 0 (u := .int .i64 _) rfl rfl)) <| qd 84 (fun _ _ => op_neq rfl rfl) (fun bo => ?_) (fun bo => ?_)
      ·refine qa 6 ((90, .bool true) :: (89, undef) :: (88, undef) :: (87, undef) :: (86, undef) :: (85, .bool true) :: _) rfl ?_
       exact leaf_q (sub_out 9 _ rfl (by kernel_rfl) ⟨(congrArg Value.bool (by rw [decide_eq_true bo] <;> rfl)), trivial⟩)
      ·refine qa 2 ((86, .slice _ _ _) :: (85, .bool false) :: _) rfl <| q_ 87 (fun _ _ => oF 1 1 rfl) <| q_ 88 (fun _ c1 => oL (c1.cell 0 (u := .int .i64 _) rfl rfl)) <| wq_call 89 (by kernel_rfl) (fun w1 c1 => op_call (by kernel_rfl)) (fun w1 c1 => (m_recyclingref59_in_ok N w1 a1.2.1 ((ix ((ix p0.Bills p1).Items) a1.2.2).Ref) M.2.2.2.1 M.2.2.2.2.1 M.2.2.2.2.2 (c1.own 6 rfl encI_len) (c1.ownZ 6 rfl) c3 (d1 (by rw [decide_eq_false bo] <;> rfl))).mono (fun _ _ ⟨_, hx, hu⟩ => ⟨hx, c1.call hu⟩)) <| qa 1 ((90, .bool _) :: _) rfl ?_
       exact leaf_q (sub_out 9 _ rfl (by kernel_rfl) ⟨(congrArg Value.bool (by rw [decide_eq_false bo] <;> rfl)), trivial⟩)
     refine xm_next <| cm_condB (by kernel_rfl) rfl (fun d2 => ?_) (fun d2 => ?_)
     ·refine cm_exit <| xm_thenE <| xm_here ?_
      exact xm_lnext (M.1, M.2.1, M.2.2.1, M.2.2.2.1, M.2.2.2.2.1, M.2.2.2.2.2) sq (sh [1, 2, 3, 4, 5, 6])
     ·refine sk <| sr <| la 1 ((91, .slice _ _ _) :: _) rfl <| v_ 92 (fun _ _ => oF 1 1 rfl) <| v_ 93 (fun _ c1 => oL (c1.cell 0 (u := .int .i64 _) rfl rfl)) <| lm_slice1 94 (el := 3) (sz := 1) (bytes := 8) (enc := encI) ((ix ((ix p0.Bills p1).Items) a1.2.2).Ref) (by kernel_rfl) (by kernel_rfl) encI_len rfl (by kernel_rfl) ?_
      intro e9 ea eb ec
      refine lm_ck (fun d3 => ?_)
      refine lm_append 95 7 (el := 3) (sz := 1) (bytes := 8) (enc := encI) (l2 := ([(ix ((ix p0.Bills p1).Items) a1.2.2).Ref])) (by kernel_rfl) (by kernel_rfl) encI_len encI_one rfl rfl rfl (fun w1 c1 => (c1.ownZ 0 rfl)) (fun w1 c1 => (c1.own 0 rfl encI_len)) d3 ?_ (by kernel_rfl)
      intro c4 c5 c6
      refine la 1 ((10, .slice _ _ _) :: _) rfl <| nn <| cm_seq <| cm_bind fun c7 d4 => cm_callIf fun c8 d5 => cm_callIf fun c9 d6 => cm_cutE [(114, .bool ((c7 && (!c8)) && (decide (c9 ≠ 0))))] ?_ ?_
      ·refine q_ 96 (fun _ c1 => oR [.slice _ _ _, .slice _ _ _, .slice _ _ _, .slice _ _ _, .slice _ _ _, .int .i64 _] (c1.cells 3 rfl rfl)) <| q_ 97 (fun _ c1 => oR [.int .i64 _, .int .i64 _, .int .i64 _, .int .i64 _, .slice _ _ _, .int .i64 _] (c1.cells 4 rfl rfl)) <| q_ 98 (fun _ _ => oF 1 1 rfl) <| q_ 99 (fun _ c1 => oL (c1.cell 1 (u := .int .i64 _) rfl rfl)) <| wq_callb 100 (by kernel_rfl) (fun w1 c1 => op_call (by kernel_rfl)) (fun w1 c1 => (m_recyclingref59_belongs_ok N w1 p0.Account (ix p0.Bills p1) ((ix ((ix p0.Bills p1).Items) a1.2.2).Ref) d l o e q t f y B g C G j J K ((a p1).1) ((a p1).2.1) ((a p1).2.2) (b2.old c1) b3 (b4.old c1) b6 (b7.old c1) b8 (b9.old c1) ba (bb.old c1) bc ((b p1 h6).1.old c1) (b p1 h6).2 c7 d4).mono (fun _ _ ⟨_, hx, hu⟩ => ⟨hx, c1.call hu⟩)) (fun bj => ?_) (fun bj => ?_)
       ·refine qa 2 ((102, .slice _ _ _) :: (101, .bool true) :: _) rfl <| q_ 103 (fun _ _ => oF 1 1 rfl) <| q_ 104 (fun _ c1 => oL (c1.cell 1 (u := .int .i64 _) rfl rfl)) <| wq_callb 105 (by kernel_rfl) (fun w1 c1 => op_call (by kernel_rfl)) (fun w1 c1 => (m_recyclingref59_in_ok N w1 bt ((ix ((ix p0.Bills p1).Items) a1.2.2).Ref) ar.1 ar.2.1 ar.2.2 (c1.own 6 rfl encI_len) (c1.ownZ 6 rfl) c8 (d5 (by rw [bj] <;> rfl))).mono (fun _ _ ⟨_, hx, hu⟩ => ⟨hx, c1.call hu⟩)) (fun bp => ?_) (fun bp => ?_)
        ·refine qa 9 ((114, .bool false) :: (113, undef) :: (112, undef) :: (111, undef) :: (110, undef) :: (109, undef) :: (108, .bool false) :: (107, .bool false) :: (106, .bool false) :: _) rfl ?_
         exact leaf_q (sub_out 19 _ rfl (by kernel_rfl) ⟨(congrArg Value.bool (by rw [bj, bp] <;> rfl)), trivial⟩)
        ·refine qa 3 ((108, .bool true) :: (107, .bool true) :: (106, .bool true) :: _) rfl <| q_ 109 (fun _ c1 => oR [.int .i64 _, .int .i64 _, .int .i64 _, .int .i64 _, .slice _ _ _, .int .i64 _] (c1.cells 4 rfl rfl)) <| q_ 110 (fun _ _ => oF 1 1 rfl) <| q_ 111 (fun _ c1 => oL (c1.cell 1 (u := .int .i64 _) rfl rfl)) <| wq_call 112 (by kernel_rfl) (fun w1 c1 => op_call (by kernel_rfl)) (fun w1 c1 => (m_recyclingref59_charged_ok N w1 (ix p0.Bills p1) ((ix ((ix p0.Bills p1).Items) a1.2.2).Ref) ((a p1).1) ((a p1).2.1) ((a p1).2.2) ((b p1 h6).1.old c1) (b p1 h6).2 c9 (d6 (by rw [bj, bp] <;> rfl))).mono (fun _ _ ⟨_, hx, hu⟩ => ⟨hx, c1.call hu⟩)) <| qa 2 ((114, .bool _) :: (113, .bool _) :: _) rfl ?_
         exact leaf_q (sub_out 19 _ rfl (by kernel_rfl) ⟨(congrArg Value.bool (by rw [bj, bp] <;> rfl)), trivial⟩)
       ·refine qa 14 ((114, .bool false) :: (113, undef) :: (112, undef) :: (111, undef) :: (110, undef) :: (109, undef) :: (108, .bool false) :: (107, .bool false) :: (106, undef) :: (105, undef) :: (104, undef) :: (103, undef) :: (102, undef) :: (101, .bool false) :: _) rfl ?_
        exact leaf_q (sub_out 19 _ rfl (by kernel_rfl) ⟨(congrArg Value.bool (by rw [bj] <;> rfl)), trivial⟩)
      refine xm_next <| cm_condB (by kernel_rfl) rfl (fun d7 => ?_) (fun d7 => ?_)
      ·refine cm_region <| la 2 ((116, .int .i64 _) :: (115, .slice _ _ _) :: _) rfl <| v_ 117 (fun _ _ => oF 1 1 rfl) <| v_ 118 (fun _ c1 => oL (c1.cell 1 (u := .int .i64 _) rfl rfl)) <| v_ 119 (fun _ _ => op_build (z := [.int .i64 0, .int .i64 0, .int .i64 0]) (tab := [(0, 1), (1, 1), (2, 1)]) (cs := [.int .i64 _, .int .i64 _, .int .i64 _]) [(0, [.int .i64 _]), (1, [.int .i64 _]), (2, [.int .i64 _])] (by kernel_rfl) (by kernel_rfl) (fillOk_cons rfl rfl rfl (fillOk_cons rfl rfl rfl (fillOk_cons rfl rfl rfl fillOk_nil))) rfl) <| lm_slice1 120 (el := 64) (sz := 3) (bytes := 24) (enc := encApiFinding) (ApiFinding.mk 13 p1 ((ix ((ix p0.Bills p1).Items) a1.2.2).Ref)) (by kernel_rfl) (by kernel_rfl) encApiFinding_len rfl (by kernel_rfl) ?_
       intro ed ee ef eg
       refine lm_ck (fun d8 => ?_)
       refine lm_append 121 6 (el := 64) (sz := 3) (bytes := 24) (enc := encApiFinding) (l2 := ([(ApiFinding.mk 13 p1 ((ix ((ix p0.Bills p1).Items) a1.2.2).Ref))])) (by kernel_rfl) (by kernel_rfl) encApiFinding_len encApiFinding_one rfl rfl rfl (fun w1 c1 => (c1.ownZ 0 rfl)) (fun w1 c1 => (c1.own 0 rfl encApiFinding_len)) d8 ?_ (by kernel_rfl)
       intro d9 da db
       refine la 1 ((7, .slice _ _ _) :: _) rfl <| lm_nil <| xm_inN ?_
       exact xm_lnext (d9, da, db, c4, c5, c6) sq (sh [3, 4, 5, 6, 7, 8])
      ·refine cm_skip <| xm_inN ?_
       exact xm_lnext (M.1, M.2.1, M.2.2.1, c4, c5, c6) sq (sh [2, 3, 4, 5, 6, 7])
    intro bn ae
    refine cm_region <| la 1 ((75, .int .i64 _) :: _) rfl <| lm_ck (fun dc => ?_)
    refine v_ 76 (fun _ _ => op_add rfl rfl dc) <| la 1 ((11, .int .i64 _) :: _) rfl <| lm_nil ?_
    exact xm_lnext (ae.1, ae.2.1, ae.2.2.1, ae.2.2.2.1, ae.2.2.2.2.1, ae.2.2.2.2.2) sq (sh [0, 1, 2, 3, 4, 5])
   ·refine cm_exit <| xm_thenE <| xm_lexit <| xm_here ?_
    exact xm_lnext (M.1, M.2.1, M.2.2.1) sq (sh [0, 1, 2, 3])
  intro bu ay
  refine cm_join (σ := (List ApiFinding)) (ξ := (Option Addr) × Nat × Nat) (fun bv az => [(7, .slice az.1 az.2.1 az.2.2)]) (fun bv az => [ownE 64 3 encApiFinding az.1 az.2.1 az.2.2 bv]) ?_ ?_
  ·refine sr <| la 1 ((13, .int .i64 _) :: _) rfl <| nn <| cm_block <| cm_loop (σ := (List ApiFinding) × Int) (ξ := (Option Addr) × Nat × Nat) (fun O av => [(1, .int .i64 p1), (2, .pointer (some ⟨b5, 0, none⟩)), (5, .pointer (some ⟨L.1, 0, none⟩)), (6, .pointer (some ⟨L.2, 0, none⟩)), (7, .slice av.1 av.2.1 av.2.2), (13, .int .i64 O.2)]) (fun O av => [blkE b5 40 [.int .i64 p0.Now, .slice d l o, .slice e q t, .slice f y B, .slice g C G, .slice j J K, .int .i64 p0.Account.Gap, .slice af aj ak, .int .i64 p0.Inside, .int .i64 p0.Bins, .slice ag al am, .slice ah an ao, .slice ai ap aq, .slice Q a2 a3, .slice U a4 a5, .slice X a6 a7, .slice Y a8 a9, .slice Z aa ab, .slice a0 ac ad], blkE L.1 28 [.slice d l o, .slice e q t, .slice f y B, .slice g C G, .slice j J K, .int .i64 p0.Account.Gap], blkE L.2 52 [.int .i64 ((ix p0.Bills p1).ID), .int .i64 ((ix p0.Bills p1).Household), .int .i64 ((ix p0.Bills p1).When.From), .int .i64 ((ix p0.Bills p1).When.To), .slice ((a p1).1) ((a p1).2.1) ((a p1).2.2), .int .i64 ((ix p0.Bills p1).Total)], ownE 64 3 encApiFinding av.1 av.2.1 av.2.2 O.1]) (ay.1, ay.2.1, ay.2.2) ?_ ?_ ?_
   ·exact sq
   ·exact sh [0, 1, 2, 3]
   intro O av
   refine cm_seq <| sr <| la 3 ((124, .bool _) :: (123, .int .i64 _) :: (122, .int .i64 _) :: _) rfl <| nn <| cm_cond (by kernel_rfl) rfl (fun dd => ?_) (fun dd => ?_)
   ·refine sk <| cm_join (σ := (List ApiFinding)) (ξ := (Option Addr) × Nat × Nat) (fun bw b0 => [(1, .int .i64 p1), (2, .pointer (some ⟨b5, 0, none⟩)), (5, .pointer (some ⟨L.1, 0, none⟩)), (6, .pointer (some ⟨L.2, 0, none⟩)), (7, .slice b0.1 b0.2.1 b0.2.2), (13, .int .i64 O.2)]) (fun bw b0 => [blkE b5 40 [.int .i64 p0.Now, .slice d l o, .slice e q t, .slice f y B, .slice g C G, .slice j J K, .int .i64 p0.Account.Gap, .slice af aj ak, .int .i64 p0.Inside, .int .i64 p0.Bins, .slice ag al am, .slice ah an ao, .slice ai ap aq, .slice Q a2 a3, .slice U a4 a5, .slice X a6 a7, .slice Y a8 a9, .slice Z aa ab, .slice a0 ac ad], blkE L.1 28 [.slice d l o, .slice e q t, .slice f y B, .slice g C G, .slice j J K, .int .i64 p0.Account.Gap], blkE L.2 52 [.int .i64 ((ix p0.Bills p1).ID), .int .i64 ((ix p0.Bills p1).Household), .int .i64 ((ix p0.Bills p1).When.From), .int .i64 ((ix p0.Bills p1).When.To), .slice ((a p1).1) ((a p1).2.1) ((a p1).2.2), .int .i64 ((ix p0.Bills p1).Total)], ownE 64 3 encApiFinding b0.1 b0.2.1 b0.2.2 bw]) ?_ ?_
    ·refine cm_block <| sr <| v_ 127 (fun _ _ => oF 17 17 rfl) <| v_ 128 (fun _ c1 => oL (c1.cell 0 (u := .slice _ _ _) rfl rfl)) <| la 1 ((129, .int .i64 _) :: _) rfl <| lm_ck (fun bh => ?_)
     refine v_ 130 (fun _ c1 => oI 6 rfl rfl ((bg.old c1).addr bh.1 bh.2) bm.2.2 bh) <| v_ 131 (fun _ c1 => oR [.int .i64 ((ix p0.Bills O.2).ID), .int .i64 ((ix p0.Bills O.2).Household), .int .i64 ((ix p0.Bills O.2).When.From), .int .i64 ((ix p0.Bills O.2).When.To), .slice ((a O.2).1) ((a O.2).2.1) ((a O.2).2.2), .int .i64 ((ix p0.Bills O.2).Total)] ((bg.old c1).row bh.1 bh.2)) <| lm_alloc 14 [.int .i64 0, .int .i64 0, .int .i64 0, .int .i64 0, .slice none 0 0, .int .i64 0] (v := .agg #[.int .i64 0, .int .i64 0, .int .i64 0, .int .i64 0, .slice none 0 0, .int .i64 0]) (by kernel_rfl) (by kernel_rfl) rfl ?_
     intro eh
     refine lm_storeA 0 [.int .i64 _, .int .i64 _, .int .i64 _, .int .i64 _, .slice _ _ _, .int .i64 _] [_, _, _, _, _, _] (H' := [blkE _ _ [_, _, _, _, _, _], _, _, _, _]) (by kernel_rfl) rfl rfl (by kernel_rfl) rfl rfl (by kernel_rfl) rfl rfl <| nn <| cm_seq <| cm_bind fun ca de => cm_cutE [(158, .bool ((ca && (decide ((ix p0.Bills O.2).Household = (ix p0.Bills p1).Household))) && (decide ((max ((ix p0.Bills O.2).When.From) ((ix p0.Bills p1).When.From)) < (min ((ix p0.Bills O.2).When.To) ((ix p0.Bills p1).When.To))))))] ?_ ?_
     ·refine q_ 132 (fun _ c1 => oR [.slice _ _ _, .slice _ _ _, .slice _ _ _, .slice _ _ _, .slice _ _ _, .int .i64 _] (c1.cells 2 rfl rfl)) <| q_ 133 (fun _ c1 => oR [.int .i64 _, .int .i64 _, .int .i64 _, .int .i64 _, .slice _ _ _, .int .i64 _] (c1.cells 0 rfl rfl)) <| wq_callb 134 (by kernel_rfl) (fun w1 c1 => op_call (by kernel_rfl)) (fun w1 c1 => (m_recyclingref59_wellFormed_ok N w1 p0.Account (ix p0.Bills O.2) d l o e q t f y B g C G j J K ((a O.2).1) ((a O.2).2.1) ((a O.2).2.2) (b2.old c1) b3 (b4.old c1) b6 (b7.old c1) b8 (b9.old c1) ba (bb.old c1) bc ((b O.2 bh).1.old c1) (b O.2 bh).2 ca de).mono (fun _ _ ⟨_, hx, hu⟩ => ⟨hx, c1.call hu⟩)) (fun bq => ?_) (fun bq => ?_)
      ·refine qa 1 ((135, .bool true) :: _) rfl <| q_ 136 (fun _ _ => oF 1 1 rfl) <| q_ 137 (fun _ c1 => oL (c1.cell 0 (u := .int .i64 _) rfl rfl)) <| q_ 138 (fun _ _ => oF 1 1 rfl) <| q_ 139 (fun _ c1 => oL (c1.cell 3 (u := .int .i64 _) rfl rfl)) <| qd 140 (fun _ _ => op_eql rfl rfl) (fun bx => ?_) (fun bx => ?_)
       ·refine qa 2 ((142, .bool true) :: (141, .bool true) :: _) rfl <| q_ 143 (fun _ _ => oF 2 2 rfl) <| q_ 144 (fun _ _ => oF 0 2 rfl) <| q_ 145 (fun _ c1 => oL (c1.cell 0 (u := .int .i64 _) rfl rfl)) <| q_ 146 (fun _ _ => oF 2 2 rfl) <| q_ 147 (fun _ _ => oF 0 2 rfl) <| q_ 148 (fun _ c1 => oL (c1.cell 3 (u := .int .i64 _) rfl rfl)) <| q_ 149 (fun _ _ => op_max rfl rfl) <| q_ 150 (fun _ _ => oF 2 2 rfl) <| q_ 151 (fun _ _ => oF 1 3 rfl) <| q_ 152 (fun _ c1 => oL (c1.cell 0 (u := .int .i64 _) rfl rfl)) <| q_ 153 (fun _ _ => oF 2 2 rfl) ?_
        refine q_ 154 (fun _ _ => oF 1 3 rfl) <| q_ 155 (fun _ c1 => oL (c1.cell 3 (u := .int .i64 _) rfl rfl)) <| q_ 156 (fun _ _ => op_min rfl rfl) <| qa 2 ((158, .bool _) :: (157, .bool _) :: _) rfl ?_
        exact leaf_q (sub_out 27 _ rfl (by kernel_rfl) ⟨(congrArg Value.bool (by rw [bq, decide_eq_true bx] <;> rfl)), trivial⟩)
       ·refine qa 18 ((158, .bool false) :: (157, undef) :: (156, undef) :: (155, undef) :: (154, undef) :: (153, undef) :: (152, undef) :: (151, undef) :: (150, undef) :: (149, undef) :: (148, undef) :: (147, undef) :: (146, undef) :: (145, undef) :: (144, undef) :: (143, undef) :: (142, .bool false) :: (141, .bool false) :: _) rfl ?_
        exact leaf_q (sub_out 27 _ rfl (by kernel_rfl) ⟨(congrArg Value.bool (by rw [bq, decide_eq_false bx] <;> rfl)), trivial⟩)
      ·refine qa 24 ((158, .bool false) :: (157, undef) :: (156, undef) :: (155, undef) :: (154, undef) :: (153, undef) :: (152, undef) :: (151, undef) :: (150, undef) :: (149, undef) :: (148, undef) :: (147, undef) :: (146, undef) :: (145, undef) :: (144, undef) :: (143, undef) :: (142, .bool false) :: (141, .bool false) :: (140, undef) :: (139, undef) :: (138, undef) :: (137, undef) :: (136, undef) :: (135, .bool false) :: _) rfl ?_
       exact leaf_q (sub_out 27 _ rfl (by kernel_rfl) ⟨(congrArg Value.bool (by rw [bq] <;> rfl)), trivial⟩)
     refine xm_next <| cm_condB (by kernel_rfl) rfl (fun df => ?_) (fun df => ?_)
     ·refine cm_region <| la 3 ((161, .int .i64 _) :: (160, .int .i64 _) :: (159, .slice _ _ _) :: _) rfl <| v_ 162 (fun _ _ => op_build (z := [.int .i64 0, .int .i64 0, .int .i64 0]) (tab := [(0, 1), (1, 1), (2, 1)]) (cs := [.int .i64 _, .int .i64 _, .int .i64 _]) [(0, [.int .i64 _]), (1, [.int .i64 _]), (2, [.int .i64 _])] (by kernel_rfl) (by kernel_rfl) (fillOk_cons rfl rfl rfl (fillOk_cons rfl rfl rfl (fillOk_cons rfl rfl rfl fillOk_nil))) rfl) <| lm_slice1 163 (el := 64) (sz := 3) (bytes := 24) (enc := encApiFinding) (ApiFinding.mk 14 p1 O.2) (by kernel_rfl) (by kernel_rfl) encApiFinding_len rfl (by kernel_rfl) ?_
      intro ei ej ek em
      refine lm_ck (fun dg => ?_)
      refine lm_append 164 5 (el := 64) (sz := 3) (bytes := 24) (enc := encApiFinding) (l2 := ([(ApiFinding.mk 14 p1 O.2)])) (by kernel_rfl) (by kernel_rfl) encApiFinding_len encApiFinding_one rfl rfl rfl (fun w1 c1 => (c1.ownZ 0 rfl)) (fun w1 c1 => (c1.own 0 rfl encApiFinding_len)) dg ?_ (by kernel_rfl)
      intro dh di dj
      refine la 1 ((7, .slice _ _ _) :: _) rfl <| lm_nil <| xm_inN ?_
      exact xm_lnext (dh, di, dj) sq (sh [2, 3, 4, 5])
     ·refine cm_skip <| xm_inN ?_
      exact xm_lnext (av.1, av.2.1, av.2.2) sq (sh [1, 2, 3, 4])
    intro bw b0
    refine cm_region <| la 1 ((125, .int .i64 _) :: _) rfl <| lm_ck (fun dk => ?_)
    refine v_ 126 (fun _ _ => op_add rfl rfl dk) <| la 1 ((13, .int .i64 _) :: _) rfl <| lm_nil ?_
    exact xm_lnext (b0.1, b0.2.1, b0.2.2) sq (sh [0, 1, 2, 3])
   ·refine cm_exit <| xm_thenE <| xm_lexit <| xm_here ?_
    exact xm_lnext (av.1, av.2.1, av.2.2) sq (sh [3])
  intro bv az
  refine sr <| la 2 ((4, .slice _ _ _) :: (165, .slice _ _ _) :: _) rfl <| nn <| cm_ret ?_
  exact xm_retT rfl (by kernel_rfl) (show _ = Value.slice _ _ _ from rfl) fun w1 c1 => ⟨(az.1, az.2.1, az.2.2), rfl, hsub [0] (by kernel_rfl) rfl w1 c1⟩
/-- recyclingref59.Bills -/
def m_recyclingref59_Bills (N : Nat) (p0 : ApiBooks) : Option ((List ApiFinding) × Int) :=
 (if 512 < (List.length p0.Bills : Int) then
  some ((([] : List ApiFinding), (8 : Int)))
 else
  (andThen
   (loopM (fun (b : Int) =>
    (if b < (List.length p0.Bills : Int) then
     ck ((0 : Int) ≤ b ∧ b < (List.length p0.Bills : Int)) (
      (if 512 < (List.length ((ix p0.Bills b).Items) : Int) then
       some (.done (.done ((([] : List ApiFinding), (8 : Int)))))
      else
       ck (I64 (b + (1 : Int))) (
        some (.next (b + (1 : Int))))))
    else
     some (.done (.next ())))) N (0 : Int))
  fun (_s25 : Unit) =>
   Option.bind (m_recyclingref54_Check N p0.Account) fun e => (if e ≠ 0 then
    some ((([] : List ApiFinding), e))
   else
    (andThen
     (loopM (fun (a : (List ApiFinding) × Int) =>
      (if a.2 < (List.length p0.Bills : Int) then
       Option.bind (m_recyclingref59_bill N p0 a.2) fun d => ck ((List.length a.1 + List.length d) * 24 ≤ 140737488355328) (
        ck (I64 (a.2 + (1 : Int))) (
         some (.next ((a.1 ++ d), (a.2 + (1 : Int))))))
      else
       some (.done (.next a.1)))) N (([] : List ApiFinding), (0 : Int)))
    fun (f : (List ApiFinding)) =>
     some ((f, (0 : Int)))))))
set_option maxHeartbeats 2000000 in
set_option maxRecDepth 20000 in
theorem m_recyclingref59_Bills_ok (N : Nat) (w0 : World) (p0 : ApiBooks) (t : Option Addr) (a3 : Nat) (a4 : Nat) (y : Option Addr) (a5 : Nat) (a6 : Nat) (z : Option Addr) (a7 : Nat) (a8 : Nat) (B : Option Addr) (a9 : Nat) (aa : Nat) (C : Option Addr) (ab : Nat) (ac : Nat) (ad : Option Addr) (ai : Nat) (aj : Nat) (ae : Option Addr) (ak : Nat) (al : Nat) (G : Int → Hdr) (af : Option Addr) (am : Nat) (an : Nat) (ag : Option Addr) (ao : Nat) (ap : Nat) (d : Option Addr) (J : Nat) (K : Nat) (e : Option Addr) (L : Nat) (M : Nat) (f : Option Addr) (O : Nat) (Q : Nat) (g : Option Addr) (U : Nat) (X : Nat) (l : Option Addr) (Y : Nat) (Z : Nat) (a : Int → Hdr) (o : Option Addr) (a0 : Nat) (a1 : Nat) (b : Int → Hdr) (az : RdE w0 2 encApiHousehold t p0.Account.Households) (b0 : SW t a3 a4 (List.length p0.Account.Households)) (b1 : RdE w0 5 encApiContainer y p0.Account.Containers) (b2 : SW y a5 a6 (List.length p0.Account.Containers)) (b3 : RdE w0 4 encApiAssign z p0.Account.Assigns) (b4 : SW z a7 a8 (List.length p0.Account.Assigns)) (b6 : RdE w0 7 encApiEmptying B p0.Account.Emptyings) (b7 : SW B a9 aa (List.length p0.Account.Emptyings)) (b8 : RdE w0 5 encApiTariff C p0.Account.Tariffs) (b9 : SW C ab ac (List.length p0.Account.Tariffs)) (bk : RdE w0 4 encApiTransfer ad p0.Transfers) (bl : SW ad ai aj (List.length p0.Transfers)) (bm : RdI w0 4 (fun (i : Int) (x : ApiBale) => encApiBale x (G i)) ae p0.Bales) (bn : SW ae ak al (List.length p0.Bales)) (ax : ∀ i : Int, 0 ≤ i ∧ i < (List.length p0.Bales : Int) → RdE w0 1 encI (G i).1 (ix p0.Bales i).Mix ∧ SW (G i).1 (G i).2.1 (G i).2.2 (List.length (ix p0.Bales i).Mix)) (bo : RdE w0 5 encApiProduct af p0.Products) (bp : SW af am an (List.length p0.Products)) (bq : RdE w0 5 encApiSale ag p0.Sales) (br : SW ag ao ap (List.length p0.Sales)) (ba : RdE w0 5 encApiClaim d p0.Claims) (bb : SW d J K (List.length p0.Claims)) (bc : RdE w0 7 encApiPayout e p0.Paid) (bd : SW e L M (List.length p0.Paid)) (be : RdE w0 1 encI f p0.Costs) (bf : SW f O Q (List.length p0.Costs)) (bg : RdE w0 3 encApiFee g p0.Fees) (bh : SW g U X (List.length p0.Fees)) (ar : RdI w0 6 (fun (i : Int) (x : ApiBill) => encApiBill x (a i)) l p0.Bills) (a2 : SW l Y Z (List.length p0.Bills)) (aq : ∀ i : Int, 0 ≤ i ∧ i < (List.length p0.Bills : Int) → RdE w0 5 encApiItem (a i).1 (ix p0.Bills i).Items ∧ SW (a i).1 (a i).2.1 (a i).2.2 (List.length (ix p0.Bills i).Items)) (bi : RdI w0 3 (fun (i : Int) (x : ApiPosting) => encApiPosting x (b i)) o p0.Postings) (bj : SW o a0 a1 (List.length p0.Postings)) (au : ∀ i : Int, 0 ≤ i ∧ i < (List.length p0.Postings : Int) → RdE w0 2 encApiLine (b i).1 (ix p0.Postings i).Lines ∧ SW (b i).1 (b i).2.1 (b i).2.2 (List.length (ix p0.Postings i).Lines)) (r : (List ApiFinding) × Int) (hr : m_recyclingref59_Bills N p0 = some r) :
  Ret Tryz.prog 8 [.agg #[.int .i64 p0.Now, .slice t a3 a4, .slice y a5 a6, .slice z a7 a8, .slice B a9 aa, .slice C ab ac, .int .i64 p0.Account.Gap, .slice ad ai aj, .int .i64 p0.Inside, .int .i64 p0.Bins, .slice ae ak al, .slice af am an, .slice ag ao ap, .slice d J K, .slice e L M, .slice f O Q, .slice g U X, .slice l Y Z, .slice o a0 a1]] w0 (fun (r : (List ApiFinding) × Int) (u : (Option Addr) × Nat × Nat) => .tuple #[.slice u.1 u.2.1 u.2.2, .int .i64 r.2]) (fun (r : (List ApiFinding) × Int) (u : (Option Addr) × Nat × Nat) => [ownE 64 3 encApiFinding u.1 u.2.1 u.2.2 r.1]) r := by
 refine calls_v (n := 47) r hr Tryz.func8 ?_
 unfold m_recyclingref59_Bills
 refine sr <| lm_box 1 [.int .i64 _, .slice _ _ _, .slice _ _ _, .slice _ _ _, .slice _ _ _, .slice _ _ _, .int .i64 _, .slice _ _ _, .int .i64 _, .int .i64 _, .slice _ _ _, .slice _ _ _, .slice _ _ _, .slice _ _ _, .slice _ _ _, .slice _ _ _, .slice _ _ _, .slice _ _ _, .slice _ _ _] (by kernel_rfl) rfl ?_
 intro b5
 refine la 2 ((3, .int .i64 _) :: (2, .slice _ _ _) :: _) rfl <| nn <| cm_seq <| sr <| v_ 8 (fun _ _ => oF 17 17 rfl) <| v_ 9 (fun _ c1 => oL (c1.cell 0 (u := .slice _ _ _) rfl rfl)) <| v_ 10 (fun _ _ => op_lenN rfl (by kernel_rfl) a2.2.2) <| la 1 ((11, .bool _) :: _) rfl <| nn <| cm_cond (by kernel_rfl) rfl (fun h6 => ?_) (fun h6 => ?_)
 ·refine sr <| la 2 ((3, .int .i64 _) :: (2, .slice _ _ _) :: _) rfl <| nn <| cm_ret <| xm_thenR <| xm_nilrow 64 3 encApiFinding ?_
  exact xm_retTT rfl (by kernel_rfl) (show _ = Value.slice _ _ _ from rfl) (by kernel_rfl) (show _ = Value.int .i64 _ from rfl) fun w1 c1 => ⟨(none, 0, 0), rfl, hsub [0] (by kernel_rfl) rfl w1 c1⟩
 ·refine sk <| cm_join (σ := Unit) (ξ := Unit) (fun bt bu => [(1, .pointer (some ⟨b5, 0, none⟩))]) (fun bt bu => [blkE b5 40 [.int .i64 p0.Now, .slice t a3 a4, .slice y a5 a6, .slice z a7 a8, .slice B a9 aa, .slice C ab ac, .int .i64 p0.Account.Gap, .slice ad ai aj, .int .i64 p0.Inside, .int .i64 p0.Bins, .slice ae ak al, .slice af am an, .slice ag ao ap, .slice d J K, .slice e L M, .slice f O Q, .slice g U X, .slice l Y Z, .slice o a0 a1]]) ?_ ?_
  ·refine sr <| la 1 ((4, .int .i64 _) :: _) rfl <| nn <| cm_block <| cm_loop (σ := Int) (ξ := Unit) (fun av bv => [(1, .pointer (some ⟨b5, 0, none⟩)), (4, .int .i64 av)]) (fun av bv => [blkE b5 40 [.int .i64 p0.Now, .slice t a3 a4, .slice y a5 a6, .slice z a7 a8, .slice B a9 aa, .slice C ab ac, .int .i64 p0.Account.Gap, .slice ad ai aj, .int .i64 p0.Inside, .int .i64 p0.Bins, .slice ae ak al, .slice af am an, .slice ag ao ap, .slice d J K, .slice e L M, .slice f O Q, .slice g U X, .slice l Y Z, .slice o a0 a1]]) () ?_ ?_ ?_
   ·exact sq
   ·exact sh [0]
   intro av bv
   refine cm_seq <| sr <| la 1 ((12, .int .i64 _) :: _) rfl <| v_ 13 (fun _ _ => oF 17 17 rfl) <| v_ 14 (fun _ c1 => oL (c1.cell 0 (u := .slice _ _ _) rfl rfl)) <| v_ 15 (fun _ _ => op_lenN rfl (by kernel_rfl) a2.2.2) <| la 1 ((16, .bool _) :: _) rfl <| nn <| cm_cond (by kernel_rfl) rfl (fun c5 => ?_) (fun c5 => ?_)
   ·refine sk <| cm_seq <| cm_block <| sr <| v_ 19 (fun _ _ => oF 17 17 rfl) <| v_ 20 (fun _ c1 => oL (c1.cell 0 (u := .slice _ _ _) rfl rfl)) <| la 1 ((21, .int .i64 _) :: _) rfl <| lm_ck (fun ay => ?_)
    refine v_ 22 (fun _ c1 => oI 6 rfl rfl ((ar.old c1).addr ay.1 ay.2) a2.2.2 ay) <| v_ 23 (fun _ _ => op_field (m := 4) rfl (by kernel_rfl)) <| v_ 24 (fun _ c1 => oL (v := .slice ((a av).1) ((a av).2.1) ((a av).2.2)) ((ar.old c1).cell (j := 4) ay.1 ay.2 rfl)) <| v_ 25 (fun _ _ => op_lenN rfl (by kernel_rfl) (aq av ay).2.2.2) <| la 1 ((26, .bool _) :: _) rfl <| nn <| cm_cond (by kernel_rfl) rfl (fun c6 => ?_) (fun c6 => ?_)
    ·refine sr <| la 2 ((3, .int .i64 _) :: (2, .slice _ _ _) :: _) rfl <| nn <| cm_ret <| xm_inR <| xm_thenR <| xm_lret <| xm_inR <| xm_lret <| xm_nilrow 64 3 encApiFinding ?_
     exact xm_retTT rfl (by kernel_rfl) (show _ = Value.slice _ _ _ from rfl) (by kernel_rfl) (show _ = Value.int .i64 _ from rfl) fun w1 c1 => ⟨(none, 0, 0), rfl, hsub [0] (by kernel_rfl) rfl w1 c1⟩
    ·refine cm_skip <| xm_inN <| xm_next <| cm_region <| la 1 ((17, .int .i64 _) :: _) rfl <| lm_ck (fun c7 => ?_)
     refine v_ 18 (fun _ _ => op_add rfl rfl c7) <| la 1 ((4, .int .i64 _) :: _) rfl <| lm_nil ?_
     exact xm_lnext () sq (sh [0])
   ·refine cm_exit <| xm_thenE <| xm_lexit <| xm_here ?_
    exact xm_lnext () sq (sh [0])
  intro bt bu
  refine sr <| v_ 27 (fun _ _ => oF 1 1 rfl) <| v_ 28 (fun _ c1 => oR [.slice _ _ _, .slice _ _ _, .slice _ _ _, .slice _ _ _, .slice _ _ _, .int .i64 _] (c1.cells 0 rfl rfl)) <| lm_call 29 (V := (fun (r : Int) (_u : Unit) => .int .i64 r)) (HR := (fun (_r : Int) (_u : Unit) => [])) (by kernel_rfl) (fun w1 => op_call (by kernel_rfl)) (fun r1 hr1 w1 c1 => m_recyclingref54_Check_ok N w1 p0.Account t a3 a4 y a5 a6 z a7 a8 B a9 aa C ab ac (az.old c1) b0 (b1.old c1) b2 (b3.old c1) b4 (b6.old c1) b7 (b8.old c1) b9 r1 hr1) ?_
  intro cd ce
  refine la 1 ((5, .int .i64 _) :: _) rfl <| nn <| cm_seq <| sr <| la 2 ((31, .bool _) :: (30, .int .i64 _) :: _) rfl <| nn <| cm_cond (by kernel_rfl) rfl (fun c8 => ?_) (fun c8 => ?_)
  ·refine sr <| la 3 ((3, .int .i64 _) :: (2, .slice _ _ _) :: (32, .int .i64 _) :: _) rfl <| nn <| cm_ret <| xm_thenR <| xm_nilrow 64 3 encApiFinding ?_
   exact xm_retTT rfl (by kernel_rfl) (show _ = Value.slice _ _ _ from rfl) (by kernel_rfl) (show _ = Value.int .i64 _ from rfl) fun w1 c1 => ⟨(none, 0, 0), rfl, hsub [0] (by kernel_rfl) rfl w1 c1⟩
  ·refine sk <| sr <| lm_slice0 33 (el := 64) (sz := 3) (bytes := 24) (enc := encApiFinding) (by kernel_rfl) (by kernel_rfl) ?_
   intro c9 ca cb cf
   refine la 1 ((6, .slice _ _ _) :: _) rfl <| nn <| cm_join (σ := (List ApiFinding)) (ξ := (Option Addr) × Nat × Nat) (fun bs ah => [(6, .slice ah.1 ah.2.1 ah.2.2)]) (fun bs ah => [ownE 64 3 encApiFinding ah.1 ah.2.1 ah.2.2 bs]) ?_ ?_
   ·refine sr <| la 1 ((7, .int .i64 _) :: _) rfl <| nn <| cm_block <| cm_loop (σ := (List ApiFinding) × Int) (ξ := (Option Addr) × Nat × Nat) (fun aw q => [(1, .pointer (some ⟨b5, 0, none⟩)), (6, .slice q.1 q.2.1 q.2.2), (7, .int .i64 aw.2)]) (fun aw q => [blkE b5 40 [.int .i64 p0.Now, .slice t a3 a4, .slice y a5 a6, .slice z a7 a8, .slice B a9 aa, .slice C ab ac, .int .i64 p0.Account.Gap, .slice ad ai aj, .int .i64 p0.Inside, .int .i64 p0.Bins, .slice ae ak al, .slice af am an, .slice ag ao ap, .slice d J K, .slice e L M, .slice f O Q, .slice g U X, .slice l Y Z, .slice o a0 a1], ownE 64 3 encApiFinding q.1 q.2.1 q.2.2 aw.1]) (c9, ca, cb) ?_ ?_ ?_
    ·exact sq
    ·exact sh [1, 0]
    intro aw q
    refine cm_seq <| sr <| la 1 ((34, .int .i64 _) :: _) rfl <| v_ 35 (fun _ _ => oF 17 17 rfl) <| v_ 36 (fun _ c1 => oL (c1.cell 0 (u := .slice _ _ _) rfl rfl)) <| v_ 37 (fun _ _ => op_lenN rfl (by kernel_rfl) a2.2.2) <| la 1 ((38, .bool _) :: _) rfl <| nn <| cm_cond (by kernel_rfl) rfl (fun bw => ?_) (fun bw => ?_)
    ·refine sk <| cm_seq <| cm_block <| cm_region <| la 1 ((41, .slice _ _ _) :: _) rfl <| v_ 42 (fun _ c1 => oR [.int .i64 _, .slice _ _ _, .slice _ _ _, .slice _ _ _, .slice _ _ _, .slice _ _ _, .int .i64 _, .slice _ _ _, .int .i64 _, .int .i64 _, .slice _ _ _, .slice _ _ _, .slice _ _ _, .slice _ _ _, .slice _ _ _, .slice _ _ _, .slice _ _ _, .slice _ _ _, .slice _ _ _] (c1.cells 0 rfl rfl)) <| la 1 ((43, .int .i64 _) :: _) rfl <| lm_call 44 (V := (fun (_r : (List ApiFinding)) (u : (Option Addr) × Nat × Nat) => .slice u.1 u.2.1 u.2.2)) (HR := (fun (r : (List ApiFinding)) (u : (Option Addr) × Nat × Nat) => [ownE 64 3 encApiFinding u.1 u.2.1 u.2.2 r])) (by kernel_rfl) (fun w1 => op_call (by kernel_rfl)) (fun r1 hr1 w1 c1 => m_recyclingref59_bill_ok N w1 p0 aw.2 t a3 a4 y a5 a6 z a7 a8 B a9 aa C ab ac ad ai aj ae ak al G af am an ag ao ap d J K e L M f O Q g U X l Y Z a o a0 a1 b (az.old c1) b0 (b1.old c1) b2 (b3.old c1) b4 (b6.old c1) b7 (b8.old c1) b9 (bk.old c1) bl (bm.old c1) bn (fun i hi => ⟨(ax i hi).1.old c1, (ax i hi).2⟩) (bo.old c1) bp (bq.old c1) br (ba.old c1) bb (bc.old c1) bd (be.old c1) bf (bg.old c1) bh (ar.old c1) a2 (fun i hi => ⟨(aq i hi).1.old c1, (aq i hi).2⟩) (bi.old c1) bj (fun i hi => ⟨(au i hi).1.old c1, (au i hi).2⟩) r1 hr1) ?_
     intro bx cc
     refine lm_ck (fun bz => ?_)
     refine lm_append 45 2 (el := 64) (sz := 3) (bytes := 24) (enc := encApiFinding) (l2 := bx) (by kernel_rfl) (by kernel_rfl) encApiFinding_len encApiFinding_one rfl rfl rfl (fun w1 c1 => (c1.ownZ 0 rfl)) (fun w1 c1 => (c1.own 0 rfl encApiFinding_len)) bz ?_ (by kernel_rfl)
     intro c0 c2 c3
     refine la 1 ((6, .slice _ _ _) :: _) rfl <| lm_nil <| xm_inN <| xm_next <| cm_region <| la 1 ((39, .int .i64 _) :: _) rfl <| lm_ck (fun c4 => ?_)
     refine v_ 40 (fun _ _ => op_add rfl rfl c4) <| la 1 ((7, .int .i64 _) :: _) rfl <| lm_nil ?_
     exact xm_lnext (c0, c2, c3) sq (sh [1, 2])
    ·refine cm_exit <| xm_thenE <| xm_lexit <| xm_here ?_
     exact xm_lnext (q.1, q.2.1, q.2.2) sq (sh [1])
   intro bs ah
   refine sr <| la 3 ((3, .int .i64 _) :: (2, .slice _ _ _) :: (46, .slice _ _ _) :: _) rfl <| nn <| cm_ret ?_
   exact xm_retTT rfl (by kernel_rfl) (show _ = Value.slice _ _ _ from rfl) (by kernel_rfl) (show _ = Value.int .i64 _ from rfl) fun w1 c1 => ⟨(ah.1, ah.2.1, ah.2.2), rfl, hsub [0] (by kernel_rfl) rfl w1 c1⟩
end Go.Proofs.YtbnimhmoffchdaaGreatDoor
