/- Models of functions, and that the code follows them. Written by deco.py. -/
import Derived.Test.YtbnimhmoffchdaaGreatDoorZR2
namespace Go.Proofs.YtbnimhmoffchdaaGreatDoor
open Go.RowKit
set_option linter.unusedSectionVars false
variable [JF]

/-- recyclingref59.wellFormed -/
def m_recyclingref59_wellFormed (_N : Nat) (p0 : ApiAccount) (p1 : ApiBill) : Option (Bool) :=
 some ((((((decide (0 ≤ p1.Household)) && (decide (p1.Household < (List.length p0.Households : Int)))) && (decide (0 ≤ p1.When.From))) && (decide (p1.When.From ≤ p1.When.To))) && (decide (p1.When.To ≤ 36525))))
set_option maxHeartbeats 2000000 in
set_option maxRecDepth 20000 in
theorem m_recyclingref59_wellFormed_ok (N : Nat) (w0 : World) (p0 : ApiAccount) (p1 : ApiBill) (a : Ad) (b d : Nat) (g : Ad) (i j : Nat) (l : Ad) (m o : Nat) (q : Ad) (t v : Nat) (x : Ad) (y z : Nat) (C : Ad) (G J : Nat) (e : SW a b d (List.length p0.Households)) (r : Bool) (hr : m_recyclingref59_wellFormed N p0 p1 = some r) :
  Ret Tryz.prog 45 [.agg #[S a b d, S g i j, S l m o, S q t v, S x y z, I p0.Gap], .agg #[I p1.ID, I p1.Household, I p1.When.From, I p1.When.To, S C G J, I p1.Total]] w0 VB H0 r := by
 refine calls_v (n := 37) r hr Tryz.func45 ?_
 unfold m_recyclingref59_wellFormed
 refine sr <| bx 2 [S _ _ _, S _ _ _, S _ _ _, S _ _ _, S _ _ _, I _] rfl fun b5 => bx 3 [I _, I _, I _, I _, S _ _ _, I _] rfl fun b6 => la 1 ((4, B false) :: _) rfl <| nn <| cm_seq <| cm_cutE [(4, B (((((decide (0 ≤ p1.Household)) && (decide (p1.Household < (List.length p0.Households : Int)))) && (decide (0 ≤ p1.When.From))) && (decide (p1.When.From ≤ p1.When.To))) && (decide (p1.When.To ≤ 36525))))] ?_ ?_
 ·refine qf 5 1 1 rfl <| qc 6 0 rfl rfl rfl <| qd 7 (fun _ _ => op_geq rfl rfl) (fun h7 => ?_) (fun h7 => ?_)
  ·refine qa 1 ((8, B true) :: _) rfl <| qf 9 1 1 rfl <| qc 10 0 rfl rfl rfl <| qf 11 0 0 rfl <| qc 12 1 rfl rfl rfl <| qn 13 e rfl <| qd 14 (fun _ _ => op_lss rfl rfl) (fun h8 => ?_) (fun h8 => ?_)
   ·refine qa 2 ((16, B true) :: (15, B true) :: _) rfl <| qf 17 2 2 rfl <| qf 18 0 2 rfl <| qc 19 0 rfl rfl rfl <| qd 20 (fun _ _ => op_geq rfl rfl) (fun h9 => ?_) (fun h9 => ?_)
    ·refine qa 2 ((22, B true) :: (21, B true) :: _) rfl <| qf 23 2 2 rfl <| qf 24 0 2 rfl <| qc 25 0 rfl rfl rfl <| qf 26 2 2 rfl <| qf 27 1 3 rfl <| qc 28 0 rfl rfl rfl <| qd 29 (fun _ _ => op_leq rfl rfl) (fun f => ?_) (fun f => ?_)
     ·exact qa 2 ((31, B true) :: (30, B true) :: _) rfl <| qf 32 2 2 rfl <| qf 33 1 3 rfl <| qc 34 0 rfl rfl rfl <| qa 3 ((4, B _) :: (36, B _) :: (35, B _) :: _) rfl <| lb 33 rfl (by rw [dt h7, dt h8, dt h9, dt f] <;> rfl)
     ·exact qa 8 ((4, B false) :: (36, B false) :: uz 35 4 ((31, B false) :: (30, B false) :: _)) rfl <| lb 33 rfl (by rw [dt h7, dt h8, dt h9, df f] <;> rfl)
    ·exact qa 17 ((4, B false) :: (36, B false) :: uz 35 4 ((31, B false) :: (30, B false) :: uz 29 7 ((22, B false) :: (21, B false) :: _))) rfl <| lb 33 rfl (by rw [dt h7, dt h8, df h9] <;> rfl)
   ·exact qa 23 ((4, B false) :: (36, B false) :: uz 35 4 ((31, B false) :: (30, B false) :: uz 29 7 ((22, B false) :: (21, B false) :: uz 20 4 ((16, B false) :: (15, B false) :: _)))) rfl <| lb 33 rfl (by rw [dt h7, df h8] <;> rfl)
  ·exact qa 30 ((4, B false) :: (36, B false) :: uz 35 4 ((31, B false) :: (30, B false) :: uz 29 7 ((22, B false) :: (21, B false) :: uz 20 4 ((16, B false) :: (15, B false) :: uz 14 6 ((8, B false) :: _))))) rfl <| lb 33 rfl (by rw [df h7] <;> rfl)
 exact xm_next <| cm_ret <| xr [] ()
/-- recyclingref59.totalRight -/
def m_recyclingref59_totalRight (N : Nat) (p0 : ApiBill) : Option (Bool) :=
 (andThen
  (loopM (fun (a : Int × Int) =>
   (if a.2 < (List.length p0.Items : Int) then
    ck (0 ≤ a.2 ∧ a.2 < (List.length p0.Items : Int)) (
     ck ((!(decide ((ix p0.Items a.2).Amount < -1000000000000))) = true → 0 ≤ a.2 ∧ a.2 < (List.length p0.Items : Int)) (
      (if ((decide ((ix p0.Items a.2).Amount < -1000000000000)) || (decide (1000000000000 < (ix p0.Items a.2).Amount))) = true then
       some (.done (.done (false)))
      else
       ck (0 ≤ a.2 ∧ a.2 < (List.length p0.Items : Int)) (
        ck (I64 (a.1 + ((ix p0.Items a.2).Amount))) (
         ck (I64 (a.2 + 1)) (
          some (.next ((a.1 + ((ix p0.Items a.2).Amount)), (a.2 + 1)))))))))
   else
    some (.done (.next a.1)))) N ((0 : Int), (0 : Int)))
 fun (b : Int) =>
  some ((decide (b = p0.Total))))
set_option maxHeartbeats 2000000 in
set_option maxRecDepth 20000 in
theorem m_recyclingref59_totalRight_ok (N : Nat) (w0 : World) (p0 : ApiBill) (b : Ad) (g i : Nat) (a : RdE w0 5 encApiItem b p0.Items) (d : SW b g i (List.length p0.Items)) (r : Bool) (hr : m_recyclingref59_totalRight N p0 = some r) :
  Ret Tryz.prog 46 [.agg #[I p0.ID, I p0.Household, I p0.When.From, I p0.When.To, S b g i, I p0.Total]] w0 VB H0 r := by
 refine calls_v (n := 40) r hr Tryz.func46 ?_
 unfold m_recyclingref59_totalRight
 refine sr <| bx 1 [I _, I _, I _, I _, S _ _ _, I _] rfl fun b5 => la 1 ((2, B false) :: _) rfl <| nn <| sr <| la 1 ((3, I _) :: _) rfl <| nn <| cm_join (σ := Int) (ξ := Unit) (fun o x => [(1, .pointer (some ⟨b5, 0, none⟩)), (3, I o)]) (fun o x => [blkE b5 52 [I p0.ID, I p0.Household, I p0.When.From, I p0.When.To, S b g i, I p0.Total]]) ?_ ?_
 ·refine sr <| la 1 ((4, I _) :: _) rfl <| nn <| cm_block <| cm_loop (σ := Int × Int) (ξ := Unit) (fun e y => [(1, .pointer (some ⟨b5, 0, none⟩)), (3, I e.1), (4, I e.2)]) (fun e y => [blkE b5 52 [I p0.ID, I p0.Household, I p0.When.From, I p0.When.To, S b g i, I p0.Total]]) () ?_ ?_ ?_
  ·exact sq
  ·exact sh [0]
  intro e y
  refine cm_seq <| sr <| la 1 ((5, I _) :: _) rfl <| vf 6 4 4 rfl <| vc 7 0 rfl rfl rfl <| vn 8 d rfl <| la 1 ((9, B _) :: _) rfl <| nn <| cc rfl (fun z => ?_) (fun z => ?_)
  ·refine sk <| cm_seq <| cm_block <| cm_seq <| cm_seq <| cm_ck (fun q => ?_)
   refine cm_ck (fun l => ?_)
   refine cm_cutE [(27, B ((decide ((ix p0.Items e.2).Amount < -1000000000000)) || (decide (1000000000000 < (ix p0.Items e.2).Amount))))] ?_ ?_
   ·refine qf 12 4 4 rfl <| qc 13 0 rfl rfl rfl <| qa 1 ((14, I _) :: _) rfl <| qi 15 5 a d q rfl rfl <| q_ 16 (fun _ _ => op_field (m := 4) rfl (by kernel_rfl)) <| q_ 17 (fun _ c1 => oL (v := I ((ix p0.Items e.2).Amount)) ((a.old c1).cell (j := 4) q.1 q.2 rfl)) <| qd 18 (fun _ _ => op_lss rfl rfl) (fun f => ?_) (fun f => ?_)
    ·exact qa 9 ((27, B true) :: uz 26 7 ((19, B true) :: _)) rfl <| lb 16 rfl (by rw [dt f] <;> rfl)
    ·exact qa 1 ((19, B false) :: _) rfl <| qf 20 4 4 rfl <| qc 21 0 rfl rfl rfl <| qa 1 ((22, I _) :: _) rfl <| q_ 23 (fun _ c1 => oI 5 rfl rfl ((a.old c1).addr (l (by rw [df f] <;> rfl)).1 (l (by rw [df f] <;> rfl)).2) d.2.2 (l (by rw [df f] <;> rfl))) <| q_ 24 (fun _ _ => op_field (m := 4) rfl (by kernel_rfl)) <| q_ 25 (fun _ c1 => oL (v := I ((ix p0.Items e.2).Amount)) ((a.old c1).cell (j := 4) (l (by rw [df f] <;> rfl)).1 (l (by rw [df f] <;> rfl)).2 rfl)) <| qa 2 ((27, B _) :: (26, B _) :: _) rfl <| lb 16 rfl (by rw [df f] <;> rfl)
   refine xm_next <| cB rfl (fun C => ?_) (fun C => ?_)
   ·exact sr <| la 1 ((2, B false) :: _) rfl <| nn <| cm_ret <| xm_thenR <| xm_inR <| xm_thenR <| xm_lret <| xm_inR <| xm_lret <| xr [] ()
   ·refine sk <| cm_region <| la 1 ((28, I _) :: _) rfl <| vf 29 4 4 rfl <| vc 30 0 rfl rfl rfl <| la 1 ((31, I _) :: _) rfl <| lm_ck (fun t => ?_)
    refine vi 32 5 a d t rfl rfl <| v_ 33 (fun _ _ => op_field (m := 4) rfl (by kernel_rfl)) <| v_ 34 (fun _ c1 => oL (v := I ((ix p0.Items e.2).Amount)) ((a.old c1).cell (j := 4) t.1 t.2 rfl)) <| lm_ck (fun G => ?_)
    refine va 35 G rfl rfl <| la 1 ((3, I _) :: _) rfl <| lm_nil <| xm_inN <| xm_next <| cm_region <| la 1 ((10, I _) :: _) rfl <| lm_ck (fun J => ?_)
    exact va 11 J rfl rfl <| la 1 ((4, I _) :: _) rfl <| lm_nil <| xn () [0]
  ·exact cm_exit <| xm_thenE <| xm_lexit <| xm_here <| xn () [0]
 intro o x
 exact sr <| la 1 ((36, I _) :: _) rfl <| vf 37 5 5 rfl <| vc 38 0 rfl rfl rfl <| la 2 ((2, B _) :: (39, B _) :: _) rfl <| nn <| cm_ret <| xr [] ()
/-- recyclingref59.has -/
def m_recyclingref59_has (N : Nat) (p0 : (List ApiItem)) (p1 : ApiItem) : Option (Bool) :=
 (andThen
  (loopM (fun (a : Int) =>
   (if a < (List.length p0 : Int) then
    ck (0 ≤ a ∧ a < (List.length p0 : Int)) (
     (if (ix p0 a) = p1 then
      some (.done (.done (true)))
     else
      ck (I64 (a + 1)) (
       some (.next (a + 1)))))
   else
    some (.done (.next ())))) N 0)
 fun (_s24 : Unit) =>
  some (false))
set_option maxRecDepth 20000 in
theorem m_recyclingref59_has_ok (N : Nat) (w0 : World) (p0 : (List ApiItem)) (p1 : ApiItem) (a : Ad) (d e : Nat) (f : RdE w0 5 encApiItem a p0) (g : SW a d e (List.length p0)) (r : Bool) (hr : m_recyclingref59_has N p0 p1 = some r) :
  Ret Tryz.prog 98 [S a d e, .agg #[I p1.Kind, I p1.Ref, I p1.Count, I p1.Price, I p1.Amount]] w0 VB H0 r := by
 refine calls_v (n := 18) r hr Tryz.func98 ?_
 unfold m_recyclingref59_has
 refine sr <| bx 3 [I _, I _, I _, I _, I _] rfl fun b5 => la 1 ((4, B false) :: _) rfl <| nn <| cm_join (σ := Unit) (ξ := Unit) (fun i j => []) (fun i j => []) ?_ ?_
 ·refine sr <| la 1 ((5, I _) :: _) rfl <| nn <| cm_block <| cm_loop (σ := Int) (ξ := Unit) (fun b l => [(0, S a d e), (3, .pointer (some ⟨b5, 0, none⟩)), (5, I b)]) (fun b l => [blkE b5 100 [I p1.Kind, I p1.Ref, I p1.Count, I p1.Price, I p1.Amount]]) () ?_ ?_ ?_
  ·exact sq
  ·exact sh [0]
  intro b l
  refine cm_seq <| sr <| la 2 ((7, S _ _ _) :: (6, I _) :: _) rfl <| vn 8 g rfl <| la 1 ((9, B _) :: _) rfl <| nn <| cc rfl (fun o => ?_) (fun o => ?_)
  ·refine sk <| cm_seq <| cm_block <| cm_seq <| cm_ck (fun m => ?_)
   refine cm_drawn [(17, B (decide ((ix p0 b) = p1)))] (by kernel_rfl) (by kernel_rfl) ?_ ?_
   ·exact qa 2 ((13, I _) :: (12, S _ _ _) :: _) rfl <| qi 14 5 f g m rfl rfl <| qr 15 f m rfl <| qR 16 [I _, I _, I _, I _, I _] 0 rfl rfl rfl <| q_ 17 (fun _ _ => op_eqApiItem (ix p0 b) p1 rfl rfl) <| lq 6
   refine xm_next <| cc rfl (fun q => ?_) (fun q => ?_)
   ·exact sr <| la 1 ((4, B true) :: _) rfl <| nn <| cm_ret <| xm_inR <| xm_thenR <| xm_lret <| xm_inR <| xm_lret <| xr [] ()
   ·refine cm_skip <| xm_inN <| xm_next <| cm_region <| la 1 ((10, I _) :: _) rfl <| lm_ck (fun t => ?_)
    exact va 11 t rfl rfl <| la 1 ((5, I _) :: _) rfl <| lm_nil <| xn () [0]
  ·exact cm_exit <| xm_thenE <| xm_lexit <| xm_here <| xm_lnext () sub_nil (sh [])
 intro i j
 exact sr <| la 1 ((4, B false) :: _) rfl <| nn <| cm_ret <| xr [] ()
/-- recyclingref59.record -/
def m_recyclingref59_record (N : Nat) (p0 : (List ApiEmptying)) (p1 : Int) : Option (ApiEmptying × Bool) :=
 (andThen
  (loopM (fun (a : Int) =>
   (if a < (List.length p0 : Int) then
    ck (0 ≤ a ∧ a < (List.length p0 : Int)) (
     (if (ix p0 a).ID = p1 then
      ck (0 ≤ a ∧ a < (List.length p0 : Int)) (
       some (.done (.done (((ix p0 a), true)))))
     else
      ck (I64 (a + 1)) (
       some (.next (a + 1)))))
   else
    some (.done (.next ())))) N 0)
 fun (_s27 : Unit) =>
  some (((ApiEmptying.mk 0 0 0 0 (ApiSpan.mk 0 0) false), false)))
set_option maxRecDepth 20000 in
theorem m_recyclingref59_record_ok (N : Nat) (w0 : World) (p0 : (List ApiEmptying)) (p1 : Int) (b : Ad) (e f : Nat) (a : RdE w0 7 encApiEmptying b p0) (d : SW b e f (List.length p0)) (r : ApiEmptying × Bool) (hr : m_recyclingref59_record N p0 p1 = some r) :
  Ret Tryz.prog 99 [S b e f, I p1] w0 (fun (r : ApiEmptying × Bool) (_u : Unit) => .tuple #[.agg #[I r.1.ID, I r.1.Container, I r.1.Vehicle, I r.1.At, I r.1.Mass.Lo, I r.1.Mass.Hi, B r.1.Void], B r.2]) H0 r := by
 refine calls_v (n := 25) r hr Tryz.func99 ?_
 unfold m_recyclingref59_record
 refine sr <| al 4 [I 0, I 0, I 0, I 0, I 0, I 0, B false] (v := .agg #[I 0, I 0, I 0, I 0, I 0, I 0, B false]) rfl fun b5 => la 1 ((5, B false) :: _) rfl <| nn <| cm_join (σ := Unit) (ξ := Unit) (fun j l => [(4, .pointer (some ⟨b5, 0, none⟩))]) (fun j l => [blkE b5 117 [I 0, I 0, I 0, I 0, I 0, I 0, B false]]) ?_ ?_
 ·refine sr <| la 1 ((6, I _) :: _) rfl <| nn <| cm_block <| cm_loop (σ := Int) (ξ := Unit) (fun g m => [(0, S b e f), (1, I p1), (4, .pointer (some ⟨b5, 0, none⟩)), (6, I g)]) (fun g m => [blkE b5 117 [I 0, I 0, I 0, I 0, I 0, I 0, B false]]) () ?_ ?_ ?_
  ·exact sq
  ·exact sh [0]
  intro g m
  refine cm_seq <| sr <| la 2 ((8, S _ _ _) :: (7, I _) :: _) rfl <| vn 9 d rfl <| la 1 ((10, B _) :: _) rfl <| nn <| cc rfl (fun q => ?_) (fun q => ?_)
  ·refine sk <| cm_seq <| cm_block <| sr <| la 2 ((14, I _) :: (13, S _ _ _) :: _) rfl <| lm_ck (fun i => ?_)
   refine vi 15 7 a d i rfl rfl <| vF 16 rfl <| v_ 17 (fun _ c1 => oL (v := I ((ix p0 g).ID)) ((a.old c1).cell0 i.1 i.2 rfl)) <| la 2 ((19, B _) :: (18, I _) :: _) rfl <| nn <| cc rfl (fun t => ?_) (fun t => ?_)
   ·refine sr <| la 2 ((21, I _) :: (20, S _ _ _) :: _) rfl <| lm_ck (fun o => ?_)
    exact vi 22 7 a d o rfl rfl <| vr 23 a o rfl <| sA 0 [I _, I _, I _, I _, I _, I _, B _] [_, _, _, _, _, _, _] (H' := [blkE _ _ [_, _, _, _, _, _, _]]) rfl rfl rfl rfl rfl rfl <| la 1 ((5, B true) :: _) rfl <| nn <| cm_ret <| xm_inR <| xm_thenR <| xm_lret <| xm_inR <| xm_lret <| xm_retCT rfl (by kernel_rfl) (show _ = Value.pointer (some ⟨_, 0, none⟩) from rfl) (by kernel_rfl) (fun w1 c1 => c1.cells 0 (ds := [I _, I _, I _, I _, I _, I _, B _]) rfl rfl) (by kernel_rfl) (show _ = B true from rfl) fun w1 c1 => ⟨(), rfl, hs [] c1⟩
   ·refine cm_skip <| xm_inN <| xm_next <| cm_region <| la 1 ((11, I _) :: _) rfl <| lm_ck (fun x => ?_)
    exact va 12 x rfl rfl <| la 1 ((6, I _) :: _) rfl <| lm_nil <| xn () [0]
  ·exact cm_exit <| xm_thenE <| xm_lexit <| xm_here <| xn () [0]
 intro j l
 exact sr <| v_ 24 (fun _ _ => op_build (z := [I 0, I 0, I 0, I 0, I 0, I 0, B false]) (tab := [(0, 1), (1, 1), (2, 1), (3, 1), (4, 2), (6, 1)]) (cs := [I _, I _, I _, I _, I _, I _, B false]) [] (by kernel_rfl) (by kernel_rfl) fillOk_nil rfl) <| sA 0 [I _, I _, I _, I _, I _, I _, B false] [_, _, _, _, _, _, _] (H' := [blkE _ _ [_, _, _, _, _, _, _]]) rfl rfl rfl rfl rfl rfl <| la 1 ((5, B false) :: _) rfl <| nn <| cm_ret <| xm_retCT rfl (by kernel_rfl) (show _ = Value.pointer (some ⟨_, 0, none⟩) from rfl) (by kernel_rfl) (fun w1 c1 => c1.cells 0 (ds := [I _, I _, I _, I _, I _, I _, B false]) rfl rfl) (by kernel_rfl) (show _ = B false from rfl) fun w1 c1 => ⟨(), rfl, hs [] c1⟩
/-- recyclingref14.Covers -/
def m_recyclingref14_Covers (_N : Nat) (p0 : ApiAssign) (p1 : Int) : Option (Bool) :=
 some (((decide (p0.When.From ≤ p1)) && (decide (p1 < p0.When.To))))
set_option maxRecDepth 20000 in
theorem m_recyclingref14_Covers_ok (N : Nat) (w0 : World) (p0 : ApiAssign) (p1 : Int)   (r : Bool) (hr : m_recyclingref14_Covers N p0 p1 = some r) :
  Ret Tryz.prog 138 [.agg #[I p0.Container, I p0.Household, I p0.When.From, I p0.When.To], I p1] w0 VB H0 r := by
 refine calls_v (n := 17) r hr Tryz.func138 ?_
 unfold m_recyclingref14_Covers
 refine sr <| bx 2 [I _, I _, I _, I _] rfl fun b5 => la 1 ((4, B false) :: _) rfl <| nn <| cm_seq <| cm_cutE [(4, B ((decide (p0.When.From ≤ p1)) && (decide (p1 < p0.When.To))))] ?_ ?_
 ·refine qf 5 2 2 rfl <| qf 6 0 2 rfl <| qc 7 0 rfl rfl rfl <| qa 1 ((8, I _) :: _) rfl <| qd 9 (fun _ _ => op_leq rfl rfl) (fun h6 => ?_) (fun h6 => ?_)
  ·exact qa 2 ((11, I _) :: (10, B true) :: _) rfl <| qf 12 2 2 rfl <| qf 13 1 3 rfl <| qc 14 0 rfl rfl rfl <| qa 3 ((4, B _) :: (16, B _) :: (15, B _) :: _) rfl <| lb 13 rfl (by rw [dt h6] <;> rfl)
  ·exact qa 8 ((4, B false) :: (16, B false) :: uz 15 5 ((10, B false) :: _)) rfl <| lb 13 rfl (by rw [df h6] <;> rfl)
 exact xm_next <| cm_ret <| xr [] ()
/-- recyclingref14.Owner -/
def m_recyclingref14_Owner (N : Nat) (p0 : (List ApiAssign)) (p1 : Int) (p2 : Int) : Option (Int × Bool) :=
 (andThen
  (loopM (fun (a : Int) =>
   (if a < (List.length p0 : Int) then
    ck (0 ≤ a ∧ a < (List.length p0 : Int)) (
     ck (decide ((ix p0 a).Container = p1) = true → 0 ≤ a ∧ a < (List.length p0 : Int)) (
      callIf (decide ((ix p0 a).Container = p1) = true) (m_recyclingref14_Covers N (ix p0 a) p2) fun b => (if ((decide ((ix p0 a).Container = p1)) && b) = true then
       ck (0 ≤ a ∧ a < (List.length p0 : Int)) (
        some (.done (.done (((ix p0 a).Household, true)))))
      else
       ck (I64 (a + 1)) (
        some (.next (a + 1))))))
   else
    some (.done (.next ())))) N 0)
 fun (_s38 : Unit) =>
  some (((0 : Int), false)))
set_option maxRecDepth 20000 in
theorem m_recyclingref14_Owner_ok (N : Nat) (w0 : World) (p0 : (List ApiAssign)) (p1 p2 : Int) (f : Ad) (i l : Nat) (b : RdE w0 4 encApiAssign f p0) (e : SW f i l (List.length p0)) (r : Int × Bool) (hr : m_recyclingref14_Owner N p0 p1 p2 = some r) :
  Ret Tryz.prog 104 [S f i l, I p1, I p2] w0 (fun (r : Int × Bool) (_u : Unit) => .tuple #[I r.1, B r.2]) H0 r := by
 refine calls_v (n := 35) r hr Tryz.func104 ?_
 unfold m_recyclingref14_Owner
 refine sr <| la 2 ((7, B false) :: (6, I _) :: _) rfl <| nn <| cm_join (σ := Unit) (ξ := Unit) (fun t x => []) (fun t x => []) ?_ ?_
 ·refine sr <| la 1 ((8, I _) :: _) rfl <| nn <| cm_block <| cm_loop (σ := Int) (ξ := Unit) (fun a y => [(0, S f i l), (1, I p1), (2, I p2), (8, I a)]) (fun a y => []) () ?_ ?_ ?_
  ·exact sq
  ·exact sh []
  intro a y
  refine cm_seq <| sr <| la 2 ((10, S _ _ _) :: (9, I _) :: _) rfl <| vn 11 e rfl <| la 1 ((12, B _) :: _) rfl <| nn <| cc rfl (fun C => ?_) (fun C => ?_)
  ·refine sk <| cm_seq <| cm_block <| cm_seq <| cm_ck (fun o => ?_)
   refine cm_ck (fun g => ?_)
   refine cm_callIf fun z G => cm_cutE [(29, B ((decide ((ix p0 a).Container = p1)) && z))] ?_ ?_
   ·refine qa 2 ((16, I _) :: (15, S _ _ _) :: _) rfl <| qi 17 4 b e o rfl rfl <| qF 18 rfl <| q_ 19 (fun _ c1 => oL (v := I ((ix p0 a).Container)) ((b.old c1).cell0 o.1 o.2 rfl)) <| qa 1 ((20, I _) :: _) rfl <| qd 21 (fun _ _ => op_eql rfl rfl) (fun d => ?_) (fun d => ?_)
    ·exact qa 3 ((24, I _) :: (23, S _ _ _) :: (22, B true) :: _) rfl <| q_ 25 (fun _ c1 => oI 4 rfl rfl ((b.old c1).addr (g (by rw [dt d] <;> rfl)).1 (g (by rw [dt d] <;> rfl)).2) e.2.2 (g (by rw [dt d] <;> rfl))) <| q_ 26 (fun _ c1 => oR [I ((ix p0 a).Container), I ((ix p0 a).Household), I ((ix p0 a).When.From), I ((ix p0 a).When.To)] ((b.old c1).row (g (by rw [dt d] <;> rfl)).1 (g (by rw [dt d] <;> rfl)).2)) <| qa 1 ((27, I _) :: _) rfl <| qk 28 (fun w1 c1 => m_recyclingref14_Covers_ok N w1 (ix p0 a) p2  z (G (by rw [dt d] <;> rfl))) <| qa 1 ((29, B _) :: _) rfl <| lb 15 rfl (by rw [dt d] <;> rfl)
    ·exact qa 8 ((29, B false) :: uz 28 6 ((22, B false) :: _)) rfl <| lb 15 rfl (by rw [df d] <;> rfl)
   refine xm_next <| cB rfl (fun J => ?_) (fun J => ?_)
   ·refine sr <| la 2 ((31, I _) :: (30, S _ _ _) :: _) rfl <| lm_ck (fun q => ?_)
    exact vi 32 4 b e q rfl rfl <| v_ 33 (fun _ _ => op_field (m := 1) rfl (by kernel_rfl)) <| v_ 34 (fun _ c1 => oL (v := I ((ix p0 a).Household)) ((b.old c1).cell (j := 1) q.1 q.2 rfl)) <| la 2 ((7, B true) :: (6, I _) :: _) rfl <| nn <| cm_ret <| xm_inR <| xm_thenR <| xm_lret <| xm_inR <| xm_lret <| xrr [] ()
   ·refine cm_skip <| xm_inN <| xm_next <| cm_region <| la 1 ((13, I _) :: _) rfl <| lm_ck (fun K => ?_)
    exact va 14 K rfl rfl <| la 1 ((8, I _) :: _) rfl <| lm_nil <| xn () []
  ·exact cm_exit <| xm_thenE <| xm_lexit <| xm_here <| xm_lnext () sub_nil (sh [])
 intro t x
 exact sr <| la 2 ((7, B false) :: (6, I _) :: _) rfl <| nn <| cm_ret <| xrr [] ()
/-- recyclingref59.belongs -/
def m_recyclingref59_belongs (N : Nat) (p0 : ApiAccount) (p1 : ApiBill) (p2 : Int) : Option (Bool) :=
 Option.bind (m_recyclingref59_record N p0.Emptyings p2) fun r7 => ck ((!(!r7.2)) = true → I64 (p1.When.From * (86400 : Int))) (
  ck ((!((!r7.2) || (decide (r7.1.At < (p1.When.From * (86400 : Int)))))) = true → I64 (p1.When.To * (86400 : Int))) (
   (if (((!r7.2) || (decide (r7.1.At < (p1.When.From * (86400 : Int))))) || (decide ((p1.When.To * (86400 : Int)) ≤ r7.1.At))) = true then
    some (false)
   else
    Option.bind (m_recyclingref14_Owner N p0.Assigns r7.1.Container r7.1.At) fun a => some ((a.2 && (decide (a.1 = p1.Household)))))))
set_option maxHeartbeats 2000000 in
set_option maxRecDepth 20000 in
theorem m_recyclingref59_belongs_ok (N : Nat) (w0 : World) (p0 : ApiAccount) (p1 : ApiBill) (p2 : Int) (x : Ad) (y z : Nat) (C : Ad) (G J : Nat) (a : Ad) (e f : Nat) (b : Ad) (g i : Nat) (K : Ad) (L M : Nat) (O : Ad) (Q U : Nat) (l : RdE w0 4 encApiAssign a p0.Assigns) (m : SW a e f (List.length p0.Assigns)) (o : RdE w0 7 encApiEmptying b p0.Emptyings) (q : SW b g i (List.length p0.Emptyings)) (r : Bool) (hr : m_recyclingref59_belongs N p0 p1 p2 = some r) :
  Ret Tryz.prog 51 [.agg #[S x y z, S C G J, S a e f, S b g i, S K L M, I p0.Gap], .agg #[I p1.ID, I p1.Household, I p1.When.From, I p1.When.To, S O Q U, I p1.Total], I p2] w0 VB H0 r := by
 refine calls_v (n := 55) r hr Tryz.func51 ?_
 unfold m_recyclingref59_belongs
 refine sr <| bx 3 [S _ _ _, S _ _ _, S _ _ _, S _ _ _, S _ _ _, I _] rfl fun b5 => bx 4 [I _, I _, I _, I _, S _ _ _, I _] rfl fun b6 => la 1 ((6, B false) :: _) rfl <| nn <| sr <| vf 12 3 3 rfl <| vc 13 1 rfl rfl rfl <| la 1 ((14, I _) :: _) rfl <| lc 15 (fun r1 hr1 w1 c1 => m_recyclingref59_record_ok N w1 p0.Emptyings p2 b g i (o.old c1) q r1 hr1) fun r7 u8 => la 3 ((17, B _) :: (16, .agg _) :: (11, .tuple _) :: _) rfl <| al 7 [I 0, I 0, I 0, I 0, I 0, I 0, B false] (v := .agg #[I 0, I 0, I 0, I 0, I 0, I 0, B false]) rfl fun b9 => sA 0 [I _, I _, I _, I _, I _, I _, B _] [_, _, _, _, _, _, _] (H' := [blkE _ _ [_, _, _, _, _, _, _], _, _]) rfl rfl rfl rfl rfl rfl <| la 1 ((8, B _) :: _) rfl <| nn <| cm_seq <| cm_seq <| cm_ck (fun X => ?_)
 refine cm_ck (fun Y => ?_)
 refine cm_cutE [(37, B (((!r7.2) || (decide (r7.1.At < (p1.When.From * (86400 : Int))))) || (decide ((p1.When.To * (86400 : Int)) ≤ r7.1.At))))] ?_ ?_
 ·refine wq_bool 18 (by kernel_rfl) (fun w1 c1 => (op_move (v := B _) rfl)) (fun d => ?_) (fun d => ?_)
  ·refine qa 2 ((20, B false) :: (19, B false) :: _) rfl <| qf 21 3 3 rfl <| qc 22 0 rfl rfl rfl <| qf 23 2 2 rfl <| qf 24 0 2 rfl <| qc 25 1 rfl rfl rfl <| q_ 26 (fun _ _ => op_mul rfl rfl (X (by rw [d] <;> rfl))) <| qd 27 (fun _ _ => op_lss rfl rfl) (fun j => ?_) (fun j => ?_)
   ·exact qa 10 ((37, B true) :: uz 36 7 ((29, B true) :: (28, B true) :: _)) rfl <| lb 20 rfl (by rw [d, dt j] <;> rfl)
   ·exact qa 2 ((29, B false) :: (28, B false) :: _) rfl <| qf 30 3 3 rfl <| qc 31 0 rfl rfl rfl <| qf 32 2 2 rfl <| qf 33 1 3 rfl <| qc 34 1 rfl rfl rfl <| q_ 35 (fun _ _ => op_mul rfl rfl (Y (by rw [d, df j] <;> rfl))) <| qa 2 ((37, B _) :: (36, B _) :: _) rfl <| lb 20 rfl (by rw [d, df j] <;> rfl)
  ·exact qa 19 ((37, B true) :: uz 36 7 ((29, B true) :: (28, B true) :: uz 27 7 ((20, B true) :: (19, B true) :: _))) rfl <| lb 20 rfl (by rw [d] <;> rfl)
 refine xm_next <| cB rfl (fun Z => ?_) (fun Z => ?_)
 ·exact sr <| la 1 ((6, B false) :: _) rfl <| nn <| cm_ret <| xm_thenR <| xr [] ()
 ·refine sk <| sr <| vf 39 2 2 rfl <| vc 40 2 rfl rfl rfl <| vf 41 1 1 rfl <| vc 42 0 rfl rfl rfl <| vf 43 3 3 rfl <| vc 44 0 rfl rfl rfl <| lc 45 (fun r1 hr1 w1 c1 => m_recyclingref14_Owner_ok N w1 p0.Assigns r7.1.Container r7.1.At a e f (l.old c1) m r1 hr1) fun V a0 => la 5 ((10, B _) :: (9, I _) :: (47, B _) :: (46, I _) :: (38, .tuple _) :: _) rfl <| nn <| cm_seq <| cm_cutE [(6, B (V.2 && (decide (V.1 = p1.Household))))] ?_ ?_
  ·refine wq_bool 48 (by kernel_rfl) (fun w1 c1 => (op_move (v := B _) rfl)) (fun t => ?_) (fun t => ?_)
   ·exact qa 2 ((50, I _) :: (49, B true) :: _) rfl <| qf 51 1 1 rfl <| qc 52 1 rfl rfl rfl <| qa 3 ((6, B _) :: (54, B _) :: (53, B _) :: _) rfl <| lb 8 rfl (by rw [t] <;> rfl)
   ·exact qa 7 ((6, B false) :: (54, B false) :: uz 53 4 ((49, B false) :: _)) rfl <| lb 8 rfl (by rw [t] <;> rfl)
  exact xm_next <| cm_ret <| xr [] ()
/-- recyclingref59.itemRight -/
def m_recyclingref59_itemRight (N : Nat) (p0 : ApiAccount) (p1 : ApiBill) (p2 : ApiItem) : Option (Bool) :=
 (if p2.Kind = 1 then
  Option.bind (m_recyclingref53_Base N p0.Tariffs p1.When) fun r9 => Option.bind (m_recyclingref59_has N r9.1 p2) fun d => some (d)
 else
  (if p2.Kind = 4 then
   some ((decide (p2.Amount < 0)))
  else
   (if ((decide (p2.Kind ≠ 2)) && (decide (p2.Kind ≠ 3))) = true then
    some (false)
   else
    Option.bind (m_recyclingref59_belongs N p0 p1 p2.Ref) fun e => (if (!e) = true then
     some (false)
    else
     Option.bind (m_recyclingref59_record N p0.Emptyings p2.Ref) fun b => ck (I64 b.1.At) (
      Option.bind (m_recyclingref53_At N p0.Tariffs (Int.tdiv b.1.At 86400)) fun a => (if a.2 ≠ 0 then
       some (false)
      else
       ck (0 ≤ a.1 ∧ a.1 < (List.length p0.Tariffs : Int)) (
        Option.bind (m_recyclingref53_Items N (ix p0.Tariffs a.1) b.1) fun f => Option.bind (m_recyclingref59_has N f.1 p2) fun g => some (g))))))))
set_option maxHeartbeats 2000000 in
set_option maxRecDepth 20000 in
theorem m_recyclingref59_itemRight_ok (N : Nat) (w0 : World) (p0 : ApiAccount) (p1 : ApiBill) (p2 : ApiItem) (y : Ad) (z C : Nat) (G : Ad) (J K : Nat) (i : Ad) (m o : Nat) (d : Ad) (j l : Nat) (b : Ad) (e f : Nat) (L : Ad) (M O : Nat) (a2 : RdE w0 4 encApiAssign i p0.Assigns) (a3 : SW i m o (List.length p0.Assigns)) (Y : RdE w0 7 encApiEmptying d p0.Emptyings) (Z : SW d j l (List.length p0.Emptyings)) (q : RdE w0 5 encApiTariff b p0.Tariffs) (Q : SW b e f (List.length p0.Tariffs)) (r : Bool) (hr : m_recyclingref59_itemRight N p0 p1 p2 = some r) :
  Ret Tryz.prog 47 [.agg #[S y z C, S G J K, S i m o, S d j l, S b e f, I p0.Gap], .agg #[I p1.ID, I p1.Household, I p1.When.From, I p1.When.To, S L M O, I p1.Total], .agg #[I p2.Kind, I p2.Ref, I p2.Count, I p2.Price, I p2.Amount]] w0 VB H0 r := by
 refine calls_v (n := 81) r hr Tryz.func47 ?_
 unfold m_recyclingref59_itemRight
 refine sr <| bx 3 [S _ _ _, S _ _ _, S _ _ _, S _ _ _, S _ _ _, I _] rfl fun b5 => bx 4 [I _, I _, I _, I _, S _ _ _, I _] rfl fun b6 => bx 5 [I _, I _, I _, I _, I _] rfl fun b7 => la 1 ((6, B false) :: _) rfl <| nn <| cm_seq <| sr <| vf 15 0 0 rfl <| vc 16 0 rfl rfl rfl <| la 1 ((17, B _) :: _) rfl <| nn <| cc rfl (fun h8 => ?_) (fun h8 => ?_)
 ·exact sr <| vf 19 4 4 rfl <| vc 20 2 rfl rfl rfl <| vf 21 2 2 rfl <| vR 22 [I _, I _] 1 rfl rfl rfl <| lc 23 (fun r1 hr1 w1 c1 => m_recyclingref53_Base_ok N w1 p0.Tariffs p1.When b e f (q.old c1) Q r1 hr1) fun r9 a4 => la 5 ((8, I _) :: (7, S _ _ _) :: (25, I _) :: (24, S _ _ _) :: (18, .tuple _) :: _) rfl <| nn <| sr <| la 1 ((26, S _ _ _) :: _) rfl <| vR 27 [I _, I _, I _, I _, I _] 1 rfl rfl rfl <| lc 28 (fun r1 hr1 w1 c1 => m_recyclingref59_has_ok N w1 r9.1 p2 a4.1 a4.2.1 a4.2.2 (c1.own 0 rfl encApiItem_len) (c1.ownZ 0 rfl) r1 hr1) fun ad ae => la 1 ((6, B _) :: _) rfl <| nn <| cm_ret <| xm_thenR <| xr [] ()
 ·refine sk <| cm_seq <| sr <| vf 29 0 0 rfl <| vc 30 0 rfl rfl rfl <| la 1 ((31, B _) :: _) rfl <| nn <| cc rfl (fun a7 => ?_) (fun a7 => ?_)
  ·exact sr <| vf 32 4 4 rfl <| vc 33 0 rfl rfl rfl <| la 2 ((6, B _) :: (34, B _) :: _) rfl <| nn <| cm_ret <| xm_thenR <| xr [] ()
  ·refine sk <| cm_seq <| cm_seq <| cm_cutE [(42, B ((decide (p2.Kind ≠ 2)) && (decide (p2.Kind ≠ 3))))] ?_ ?_
   ·refine qf 35 0 0 rfl <| qc 36 0 rfl rfl rfl <| qd 37 (fun _ _ => op_neq rfl rfl) (fun a5 => ?_) (fun a5 => ?_)
    ·exact qa 1 ((38, B true) :: _) rfl <| qf 39 0 0 rfl <| qc 40 0 rfl rfl rfl <| qa 2 ((42, B _) :: (41, B _) :: _) rfl <| lb 8 rfl (by rw [dt a5] <;> rfl)
    ·exact qa 5 ((42, B false) :: uz 41 3 ((38, B false) :: _)) rfl <| lb 8 rfl (by rw [df a5] <;> rfl)
   refine xm_next <| cB rfl (fun a8 => ?_) (fun a8 => ?_)
   ·exact sr <| la 1 ((6, B false) :: _) rfl <| nn <| cm_ret <| xm_thenR <| xr [] ()
   ·refine sk <| cm_seq <| sr <| vR 43 [S _ _ _, S _ _ _, S _ _ _, S _ _ _, S _ _ _, I _] 2 rfl rfl rfl <| vR 44 [I _, I _, I _, I _, S _ _ _, I _] 1 rfl rfl rfl <| vf 45 1 1 rfl <| vc 46 0 rfl rfl rfl <| lc 47 (fun r1 hr1 w1 c1 => m_recyclingref59_belongs_ok N w1 p0 p1 p2.Ref y z C G J K i m o d j l b e f L M O (a2.old c1) a3 (Y.old c1) Z r1 hr1) fun af ag => la 1 ((48, B _) :: _) rfl <| nn <| cB rfl (fun a9 => ?_) (fun a9 => ?_)
    ·exact sr <| la 1 ((6, B false) :: _) rfl <| nn <| cm_ret <| xm_thenR <| xr [] ()
    ·refine sk <| sr <| vf 50 3 3 rfl <| vc 51 2 rfl rfl rfl <| vf 52 1 1 rfl <| vc 53 0 rfl rfl rfl <| lc 54 (fun r1 hr1 w1 c1 => m_recyclingref59_record_ok N w1 p0.Emptyings p2.Ref d j l (Y.old c1) Z r1 hr1) fun a ah => la 3 ((56, B _) :: (55, .agg _) :: (49, .tuple _) :: _) rfl <| al 9 [I 0, I 0, I 0, I 0, I 0, I 0, B false] (v := .agg #[I 0, I 0, I 0, I 0, I 0, I 0, B false]) rfl fun a6 => sA 0 [I _, I _, I _, I _, I _, I _, B _] [_, _, _, _, _, _, _] (H' := [blkE _ _ [_, _, _, _, _, _, _], _, _, _]) rfl rfl rfl rfl rfl rfl <| la 1 ((10, B _) :: _) rfl <| nn <| sr <| vf 58 4 4 rfl <| vc 59 3 rfl rfl rfl <| vf 60 3 3 rfl <| vc 61 0 rfl rfl rfl <| lm_ck (fun aa => ?_)
     refine v_ 62 (fun _ _ => op_quoK rfl rfl (by kernel_rfl) aa) <| lc 63 (fun r1 hr1 w1 c1 => m_recyclingref53_At_ok N w1 p0.Tariffs (Int.tdiv a.1.At 86400) b e f (q.old c1) Q r1 hr1) fun V ai => la 5 ((12, I _) :: (11, I _) :: (65, I _) :: (64, I _) :: (57, .tuple _) :: _) rfl <| nn <| cm_seq <| sr <| la 2 ((67, B _) :: (66, I _) :: _) rfl <| nn <| cc rfl (fun ab => ?_) (fun ab => ?_)
     ·exact sr <| la 1 ((6, B false) :: _) rfl <| nn <| cm_ret <| xm_thenR <| xr [] ()
     ·refine sk <| cm_seq <| cm_ck (fun a0 => ?_)
      refine cm_bind fun a1 ac => cm_held (ξ := Hdr) (fun g => [(5, .pointer (some ⟨b7, 0, none⟩)), (13, S g.1 g.2.1 g.2.2)]) (fun g => [blkE b7 100 [I p2.Kind, I p2.Ref, I p2.Count, I p2.Price, I p2.Amount], ownE 100 5 encApiItem g.1 g.2.1 g.2.2 a1.1]) [blkE a6 117 [I a.1.ID, I a.1.Container, I a.1.Vehicle, I a.1.At, I a.1.Mass.Lo, I a.1.Mass.Hi, B a.1.Void], blkE b7 100 [I p2.Kind, I p2.Ref, I p2.Count, I p2.Price, I p2.Amount], blkE b6 52 [I p1.ID, I p1.Household, I p1.When.From, I p1.When.To, S L M O, I p1.Total], blkE b5 28 [S y z C, S G J K, S i m o, S d j l, S b e f, I p0.Gap]] 12 (by kernel_rfl) (by rfl) (hsub [0, 1, 2, 3] (by kernel_rfl) (by rfl)) ?_ ?_
      ·intro aj U
       refine wt 0 69 rfl (fun _ _ => oF 4 4 rfl) (hs [0, 1, 2, 3] U) <| wt 1 70 rfl (fun w2 c2 => oL (c2.cell 3 (u := S _ _ _) rfl rfl)) (hs [0, 1, 2, 3] U) <| wt 2 71 rfl (fun w2 c2 => (op_move (v := I _) rfl)) (hs [0, 1, 2, 3] U) <| wt 3 72 rfl (fun w2 c2 => oI 5 rfl rfl ((q.old c2).addr a0.1 a0.2) Q.2.2 a0) (hs [0, 1, 2, 3] U) <| wt 4 73 rfl (fun w2 c2 => (op_loadR [I ((ix p0.Tariffs V.1).From), I ((ix p0.Tariffs V.1).Base), I ((ix p0.Tariffs V.1).Empty), I ((ix p0.Tariffs V.1).Kilo), I ((ix p0.Tariffs V.1).Free)] rfl (by kernel_rfl) ((q.old c2).row a0.1 a0.2))) (hs [0, 1, 2, 3] U) <| wt 5 74 rfl (fun w2 c2 => (op_loadR [I _, I _, I _, I _, I _, I _, B _] rfl (by kernel_rfl) (c2.cells 0 rfl rfl))) (hs [0, 1, 2, 3] U) <| wh_ready [6] (by kernel_rfl) rfl ⟨?_, trivial⟩
       refine ws_call 75 rfl (by kernel_rfl) (op_call (by kernel_rfl)) (m_recyclingref53_Items_ok N _ (ix p0.Tariffs V.1) a.1  a1 ac) ?_
       rintro x ak ⟨X, rfl, t⟩
       replace t := U.call t
       refine ⟨_, rfl, (hs [1, 2, 3, 4] t), ?_⟩
       exact wh_strong (Hs w0 [ownE 100 5 encApiItem X.1 X.2.1 X.2.2 a1.1, blkE a6 117 [I a.1.ID, I a.1.Container, I a.1.Vehicle, I a.1.At, I a.1.Mass.Lo, I a.1.Mass.Hi, B a.1.Void], blkE b7 100 [I p2.Kind, I p2.Ref, I p2.Count, I p2.Price, I p2.Amount], blkE b6 52 [I p1.ID, I p1.Household, I p1.When.From, I p1.When.To, S L M O, I p1.Total], blkE b5 28 [S y z C, S G J K, S i m o, S d j l, S b e f, I p0.Gap]]) (fun w2 c2 => hs [1, 2, 3, 4] c2) <| wt 7 68 rfl (fun w2 c2 => (op_move (v := .tuple _) rfl)) (hs [0, 1, 2, 3, 4] t) <| wt 8 76 rfl (fun w2 c2 => (op_extract (v := S _ _ _) rfl rfl)) (hs [0, 1, 2, 3, 4] t) <| wt 9 77 rfl (fun w2 c2 => (op_extract (v := I _) rfl rfl)) (hs [0, 1, 2, 3, 4] t) <| wt 10 13 rfl (fun w2 c2 => (op_assign (v := S _ _ _) rfl)) (hs [0, 1, 2, 3, 4] t) <| wt 11 14 rfl (fun w2 c2 => (op_assign (v := I _) rfl)) (hs [0, 1, 2, 3, 4] t) <| wh_done (X.1, X.2.1, X.2.2) (by kernel_rfl) sq (hs [2, 0] t)
      intro g
      exact xm_next <| sr <| la 1 ((78, S _ _ _) :: _) rfl <| vR 79 [I _, I _, I _, I _, I _] 0 rfl rfl rfl <| lc 80 (fun r1 hr1 w1 c1 => m_recyclingref59_has_ok N w1 a1.1 p2 g.1 g.2.1 g.2.2 (c1.own 1 rfl encApiItem_len) (c1.ownZ 1 rfl) r1 hr1) fun am an => la 1 ((6, B _) :: _) rfl <| nn <| cm_ret <| xr [] ()
/-- recyclingref59.counting -/
def m_recyclingref59_counting (N : Nat) (p0 : ApiAccount) (p1 : ApiBill) : Option ((List Int)) :=
 ck (I64 (p1.When.From * (86400 : Int))) (
  ck (I64 (p1.When.To * (86400 : Int))) (
   Option.bind (m_recyclingref18_Of N p0.Emptyings p0.Assigns p1.Household (ApiWindow.mk (p1.When.From * (86400 : Int)) (p1.When.To * (86400 : Int))) p0.Gap) fun r9 => (andThen
    (loopM (fun (a : (List Int) × Int) =>
     (if a.2 < (List.length r9.1 : Int) then
      ck (0 ≤ a.2 ∧ a.2 < (List.length r9.1 : Int)) (
       ck (0 ≤ (ix r9.1 a.2) ∧ (ix r9.1 a.2) < (List.length p0.Emptyings : Int)) (
        ck ((List.length a.1 + List.length ([(ix p0.Emptyings (ix r9.1 a.2)).ID])) * 8 ≤ 140737488355328) (
         ck (I64 (a.2 + 1)) (
          some (.next ((a.1 ++ ([(ix p0.Emptyings (ix r9.1 a.2)).ID])), (a.2 + 1)))))))
     else
      some (.done (.next a.1)))) N (([] : List Int), (0 : Int)))
   fun (b : (List Int)) =>
    some (b))))
set_option maxHeartbeats 2000000 in
set_option maxRecDepth 20000 in
theorem m_recyclingref59_counting_ok (N : Nat) (w0 : World) (p0 : ApiAccount) (p1 : ApiBill) (t : Ad) (x y : Nat) (C : Ad) (G J : Nat) (i : Ad) (l m : Nat) (j : Ad) (o q : Nat) (K : Ad) (L M : Nat) (a2 : Ad) (a3 a4 : Nat) (a0 : RdE w0 4 encApiAssign i p0.Assigns) (a1 : SW i l m (List.length p0.Assigns)) (Q : RdE w0 7 encApiEmptying j p0.Emptyings) (X : SW j o q (List.length p0.Emptyings)) (r : (List Int)) (hr : m_recyclingref59_counting N p0 p1 = some r) :
  Ret Tryz.prog 49 [.agg #[S t x y, S C G J, S i l m, S j o q, S K L M, I p0.Gap], .agg #[I p1.ID, I p1.Household, I p1.When.From, I p1.When.To, S a2 a3 a4, I p1.Total]] w0 (fun (_r : (List Int)) (u : Hdr) => S u.1 u.2.1 u.2.2) (fun (r : (List Int)) (u : Hdr) => [ownE 3 1 encI u.1 u.2.1 u.2.2 r]) r := by
 refine calls_v (n := 50) r hr Tryz.func49 ?_
 unfold m_recyclingref59_counting
 refine sr <| bx 2 [S _ _ _, S _ _ _, S _ _ _, S _ _ _, S _ _ _, I _] rfl fun b5 => bx 3 [I _, I _, I _, I _, S _ _ _, I _] rfl fun b6 => la 1 ((4, S _ _ _) :: _) rfl <| nn <| sr <| vf 10 3 3 rfl <| vc 11 1 rfl rfl rfl <| vf 12 2 2 rfl <| vc 13 1 rfl rfl rfl <| vf 14 1 1 rfl <| vc 15 0 rfl rfl rfl <| vf 16 2 2 rfl <| vf 17 0 2 rfl <| vc 18 0 rfl rfl rfl <| lm_ck (fun h7 => ?_)
 refine v_ 19 (fun _ _ => op_mul rfl rfl h7) <| vf 20 2 2 rfl <| vf 21 1 3 rfl <| vc 22 0 rfl rfl rfl <| lm_ck (fun h8 => ?_)
 refine v_ 23 (fun _ _ => op_mul rfl rfl h8) <| v_ 24 (fun _ _ => op_build (z := [I 0, I 0]) (tab := [(0, 1), (1, 1)]) (cs := [I _, I _]) [(0, [I _]), (1, [I _])] (by kernel_rfl) (by kernel_rfl) (fillOk_cons rfl rfl rfl (fillOk_cons rfl rfl rfl fillOk_nil)) rfl) <| vf 25 5 5 rfl <| vc 26 1 rfl rfl rfl <| lc 27 (fun r1 hr1 w1 c1 => m_recyclingref18_Of_ok N w1 p0.Emptyings p0.Assigns p1.Household (ApiWindow.mk (p1.When.From * (86400 : Int)) (p1.When.To * (86400 : Int))) p0.Gap j o q i l m (Q.old c1) X (a0.old c1) a1 r1 hr1) fun r9 a => la 5 ((6, I _) :: (5, S _ _ _) :: (29, I _) :: (28, S _ _ _) :: (9, .tuple _) :: _) rfl <| nn <| sr <| lm_slice0 30 (el := 3) (sz := 1) (bytes := 8) (enc := encI) (by kernel_rfl) (by kernel_rfl) fun ae af ag ak => la 1 ((7, S _ _ _) :: _) rfl <| nn <| cm_join (σ := (List Int)) (ξ := Hdr) (fun Y d => [(7, S d.1 d.2.1 d.2.2)]) (fun Y d => [ownE 3 1 encI d.1 d.2.1 d.2.2 Y]) ?_ ?_
 ·refine sr <| la 1 ((8, I _) :: _) rfl <| nn <| cm_block <| cm_loop (σ := (List Int) × Int) (ξ := Hdr) (fun b e => [(2, .pointer (some ⟨b5, 0, none⟩)), (5, S a.1 a.2.1 a.2.2), (7, S e.1 e.2.1 e.2.2), (8, I b.2)]) (fun b e => [blkE b5 28 [S t x y, S C G J, S i l m, S j o q, S K L M, I p0.Gap], ownE 3 1 encI a.1 a.2.1 a.2.2 r9.1, ownE 3 1 encI e.1 e.2.1 e.2.2 b.1]) (ae, af, ag) ?_ ?_ ?_
  ·exact sq
  ·exact sh [3, 1, 0]
  intro b e
  refine cm_seq <| sr <| la 2 ((32, S _ _ _) :: (31, I _) :: _) rfl <| v_ 33 (fun _ c1 => op_lenN rfl (by kernel_rfl) (c1.ownZ 1 rfl).2.2) <| la 1 ((34, B _) :: _) rfl <| nn <| cc rfl (fun a5 => ?_) (fun a5 => ?_)
  ·refine sk <| cm_seq <| cm_block <| cm_ck (fun O => ?_)
   refine cm_ck (fun U => ?_)
   refine cm_ck (fun a6 => ?_)
   refine cm_of_then <| cm_held (ξ := Hdr) (fun f => [(2, .pointer (some ⟨b5, 0, none⟩)), (5, S a.1 a.2.1 a.2.2), (7, S f.1 f.2.1 f.2.2), (8, I b.2)]) (fun f => [blkE b5 28 [S t x y, S C G J, S i l m, S j o q, S K L M, I p0.Gap], ownE 3 1 encI a.1 a.2.1 a.2.2 r9.1, ownE 3 1 encI f.1 f.2.1 f.2.2 (b.1 ++ ([(ix p0.Emptyings (ix r9.1 b.2)).ID]))]) [blkE b5 28 [S t x y, S C G J, S i l m, S j o q, S K L M, I p0.Gap], ownE 3 1 encI a.1 a.2.1 a.2.2 r9.1] 13 (by kernel_rfl) (by rfl) (hsub [0, 1] (by kernel_rfl) (by rfl)) ?_ ?_
   ·intro ah g
    refine wt 0 37 rfl (fun w2 c2 => (op_move (v := S _ _ _) rfl)) (hs [0, 1] g) <| wt 1 38 rfl (fun _ _ => oF 3 3 rfl) (hs [0, 1] g) <| wt 2 39 rfl (fun w2 c2 => oL (c2.cell 0 (u := S _ _ _) rfl rfl)) (hs [0, 1] g) <| wt 3 40 rfl (fun w2 c2 => (op_move (v := S _ _ _) rfl)) (hs [0, 1] g) <| wt 4 41 rfl (fun w2 c2 => (op_move (v := I _) rfl)) (hs [0, 1] g) <| wt 5 42 rfl (fun w2 c2 => (op_indexA 1 rfl rfl (by kernel_rfl) ((c2.own 1 rfl encI_len).addr O.1 O.2) (c2.ownZ 1 rfl).2.2 O.1 O.2)) (hs [0, 1] g) <| wt 6 43 rfl (fun w2 c2 => (op_load (v := I (ix r9.1 b.2)) rfl (by kernel_rfl) ((c2.own 1 rfl encI_len).cell0 O.1 O.2 rfl))) (hs [0, 1] g) <| wt 7 44 rfl (fun w2 c2 => oI 7 rfl rfl ((Q.old c2).addr U.1 U.2) X.2.2 U) (hs [0, 1] g) <| wt 8 45 rfl (fun w2 c2 => (op_field0 rfl (by kernel_rfl))) (hs [0, 1] g) <| wt 9 46 rfl (fun w2 c2 => (op_load (v := I ((ix p0.Emptyings (ix r9.1 b.2)).ID)) rfl (by kernel_rfl) ((Q.old c2).cell0 U.1 U.2 rfl))) (hs [0, 1] g) <| wh_ready [10] (by kernel_rfl) rfl ⟨?_, trivial⟩
    refine ws_sliceN 47 (el := 3) (sz := 1) (bytes := 8) (enc := encI) [(ix p0.Emptyings (ix r9.1 b.2)).ID] rfl (by kernel_rfl) (by kernel_rfl) encI_len rfl ⟨rfl, rfl, trivial⟩ (by kernel_rfl) (by kernel_rfl) g fun a7 a8 a9 ai V => ⟨(hs [1, 2] V), ?_⟩
    refine wh_strong (Hs w0 [ownE 3 1 encI a7 a8 a9 ([(ix p0.Emptyings (ix r9.1 b.2)).ID]), blkE b5 28 [S t x y, S C G J, S i l m, S j o q, S K L M, I p0.Gap], ownE 3 1 encI a.1 a.2.1 a.2.2 r9.1]) (fun w2 c2 => hs [1, 2] c2) <| wh_ready [11] (by kernel_rfl) rfl ⟨?_, trivial⟩
    refine ws_append 48 3 (el := 3) (sz := 1) (bytes := 8) (enc := encI) (l2 := ([(ix p0.Emptyings (ix r9.1 b.2)).ID])) rfl (by kernel_rfl) (by kernel_rfl) encI_len encI_one rfl rfl rfl (V.ownZ 0 rfl) (V.own 0 rfl encI_len) a6 (by kernel_rfl) V fun aa ab ac aj Z => ⟨(hs [0, 1, 2] Z), ?_⟩
    exact wt 12 7 rfl (fun w2 c2 => (op_assign (v := S _ _ _) rfl)) (hs [0, 1, 2] Z) <| wh_done (aa, ab, ac) (by kernel_rfl) sq (hs [1, 2, 3] Z)
   intro f
   refine xm_of_then <| xm_inN <| xm_next <| cm_region <| la 1 ((35, I _) :: _) rfl <| lm_ck (fun ad => ?_)
   exact va 36 ad rfl rfl <| la 1 ((8, I _) :: _) rfl <| lm_nil <| xn (f.1, f.2.1, f.2.2) [0, 1, 2]
  ·exact cm_exit <| xm_thenE <| xm_lexit <| xm_here <| xn (e.1, e.2.1, e.2.2) [2]
 intro Y d
 exact sr <| la 2 ((4, S _ _ _) :: (49, S _ _ _) :: _) rfl <| nn <| cm_ret <| xr [0] (d.1, d.2.1, d.2.2)
/-- recyclingref59.billed -/
def m_recyclingref59_billed (N : Nat) (p0 : ApiBill) (p1 : Int) : Option (Bool) :=
 (andThen
  (loopM (fun (a : Int) =>
   (if a < (List.length p0.Items : Int) then
    ck (0 ≤ a ∧ a < (List.length p0.Items : Int)) (
     ck (decide ((ix p0.Items a).Kind = 2) = true → 0 ≤ a ∧ a < (List.length p0.Items : Int)) (
      (if ((decide ((ix p0.Items a).Kind = 2)) && (decide ((ix p0.Items a).Ref = p1))) = true then
       some (.done (.done (true)))
      else
       ck (I64 (a + 1)) (
        some (.next (a + 1))))))
   else
    some (.done (.next ())))) N 0)
 fun (_s30 : Unit) =>
  some (false))
set_option maxRecDepth 20000 in
theorem m_recyclingref59_billed_ok (N : Nat) (w0 : World) (p0 : ApiBill) (p1 : Int) (d : Ad) (g i : Nat) (a : RdE w0 5 encApiItem d p0.Items) (e : SW d g i (List.length p0.Items)) (r : Bool) (hr : m_recyclingref59_billed N p0 p1 = some r) :
  Ret Tryz.prog 102 [.agg #[I p0.ID, I p0.Household, I p0.When.From, I p0.When.To, S d g i, I p0.Total], I p1] w0 VB H0 r := by
 refine calls_v (n := 30) r hr Tryz.func102 ?_
 unfold m_recyclingref59_billed
 refine sr <| bx 2 [I _, I _, I _, I _, S _ _ _, I _] rfl fun b5 => la 1 ((4, B false) :: _) rfl <| nn <| cm_join (σ := Unit) (ξ := Unit) (fun q t => []) (fun q t => []) ?_ ?_
 ·refine sr <| la 1 ((5, I _) :: _) rfl <| nn <| cm_block <| cm_loop (σ := Int) (ξ := Unit) (fun f x => [(1, I p1), (2, .pointer (some ⟨b5, 0, none⟩)), (5, I f)]) (fun f x => [blkE b5 52 [I p0.ID, I p0.Household, I p0.When.From, I p0.When.To, S d g i, I p0.Total]]) () ?_ ?_ ?_
  ·exact sq
  ·exact sh [0]
  intro f x
  refine cm_seq <| sr <| la 1 ((6, I _) :: _) rfl <| vf 7 4 4 rfl <| vc 8 0 rfl rfl rfl <| vn 9 e rfl <| la 1 ((10, B _) :: _) rfl <| nn <| cc rfl (fun y => ?_) (fun y => ?_)
  ·refine sk <| cm_seq <| cm_block <| cm_seq <| cm_ck (fun o => ?_)
   refine cm_ck (fun l => ?_)
   refine cm_cutE [(29, B ((decide ((ix p0.Items f).Kind = 2)) && (decide ((ix p0.Items f).Ref = p1))))] ?_ ?_
   ·refine qf 13 4 4 rfl <| qc 14 0 rfl rfl rfl <| qa 1 ((15, I _) :: _) rfl <| qi 16 5 a e o rfl rfl <| qF 17 rfl <| q_ 18 (fun _ c1 => oL (v := I ((ix p0.Items f).Kind)) ((a.old c1).cell0 o.1 o.2 rfl)) <| qd 19 (fun _ _ => op_eql rfl rfl) (fun b => ?_) (fun b => ?_)
    ·exact qa 1 ((20, B true) :: _) rfl <| qf 21 4 4 rfl <| qc 22 0 rfl rfl rfl <| qa 1 ((23, I _) :: _) rfl <| q_ 24 (fun _ c1 => oI 5 rfl rfl ((a.old c1).addr (l (by rw [dt b] <;> rfl)).1 (l (by rw [dt b] <;> rfl)).2) e.2.2 (l (by rw [dt b] <;> rfl))) <| q_ 25 (fun _ _ => op_field (m := 1) rfl (by kernel_rfl)) <| q_ 26 (fun _ c1 => oL (v := I ((ix p0.Items f).Ref)) ((a.old c1).cell (j := 1) (l (by rw [dt b] <;> rfl)).1 (l (by rw [dt b] <;> rfl)).2 rfl)) <| qa 3 ((29, B _) :: (28, B _) :: (27, I _) :: _) rfl <| lb 17 rfl (by rw [dt b] <;> rfl)
    ·exact qa 10 ((29, B false) :: uz 28 8 ((20, B false) :: _)) rfl <| lb 17 rfl (by rw [df b] <;> rfl)
   refine xm_next <| cB rfl (fun z => ?_) (fun z => ?_)
   ·exact sr <| la 1 ((4, B true) :: _) rfl <| nn <| cm_ret <| xm_inR <| xm_thenR <| xm_lret <| xm_inR <| xm_lret <| xr [] ()
   ·refine cm_skip <| xm_inN <| xm_next <| cm_region <| la 1 ((11, I _) :: _) rfl <| lm_ck (fun C => ?_)
    exact va 12 C rfl rfl <| la 1 ((5, I _) :: _) rfl <| lm_nil <| xn () [0]
  ·exact cm_exit <| xm_thenE <| xm_lexit <| xm_here <| xm_lnext () sub_nil (sh [])
 intro q t
 exact sr <| la 1 ((4, B false) :: _) rfl <| nn <| cm_ret <| xr [] ()
/-- recyclingref59.missing -/
def m_recyclingref59_missing (N : Nat) (p0 : ApiAccount) (p1 : ApiBill) (p2 : Int) : Option ((List ApiFinding)) :=
 Option.bind (m_recyclingref53_Base N p0.Tariffs p1.When) fun e => (andThen
  (loopM (fun (d : Int) =>
   (if d < (List.length e.1 : Int) then
    ck (0 ≤ d ∧ d < (List.length e.1 : Int)) (
     Option.bind (m_recyclingref59_has N p1.Items (ix e.1 d)) fun j => (if (!j) = true then
      ck ((List.length ([] : List ApiFinding) + List.length ([(ApiFinding.mk 12 p2 0)])) * 24 ≤ 140737488355328) (
       some (.done (.next (([] : List ApiFinding) ++ ([(ApiFinding.mk 12 p2 0)])))))
     else
      ck (I64 (d + 1)) (
       some (.next (d + 1)))))
   else
    some (.done (.next ([] : List ApiFinding))))) N 0)
 fun (l : (List ApiFinding)) =>
  Option.bind (m_recyclingref59_counting N p0 p1) fun b => (andThen
   (loopM (fun (a : (List ApiFinding) × Int) =>
    (if a.2 < (List.length b : Int) then
     (andThen
      (ck (0 ≤ a.2 ∧ a.2 < (List.length b : Int)) (
       Option.bind (m_recyclingref59_billed N p1 (ix b a.2)) fun f => (if (!f) = true then
        ck (0 ≤ a.2 ∧ a.2 < (List.length b : Int)) (
         ck ((List.length a.1 + List.length ([(ApiFinding.mk 12 p2 (ix b a.2))])) * 24 ≤ 140737488355328) (
          some (.next (a.1 ++ ([(ApiFinding.mk 12 p2 (ix b a.2))])))))
       else
        some (.next a.1))))
     fun (g : (List ApiFinding)) =>
      ck (I64 (a.2 + 1)) (
       some (.next (g, (a.2 + 1)))))
    else
     some (.done (.next a.1)))) N (l, (0 : Int)))
  fun (i : (List ApiFinding)) =>
   some (i)))
set_option maxHeartbeats 2000000 in
set_option maxRecDepth 20000 in
theorem m_recyclingref59_missing_ok (N : Nat) (w0 : World) (p0 : ApiAccount) (p1 : ApiBill) (p2 : Int) (M : Ad) (O Q : Nat) (U : Ad) (V X : Nat) (o : Ad) (C G : Nat) (q : Ad) (J K : Nat) (l : Ad) (t x : Nat) (b : Ad) (e f : Nat) (a7 : RdE w0 4 encApiAssign o p0.Assigns) (a8 : SW o C G (List.length p0.Assigns)) (a9 : RdE w0 7 encApiEmptying q p0.Emptyings) (aa : SW q J K (List.length p0.Emptyings)) (ab : RdE w0 5 encApiTariff l p0.Tariffs) (ac : SW l t x (List.length p0.Tariffs)) (a2 : RdE w0 5 encApiItem b p1.Items) (a3 : SW b e f (List.length p1.Items)) (r : (List ApiFinding)) (hr : m_recyclingref59_missing N p0 p1 p2 = some r) :
  Ret Tryz.prog 48 [.agg #[S M O Q, S U V X, S o C G, S q J K, S l t x, I p0.Gap], .agg #[I p1.ID, I p1.Household, I p1.When.From, I p1.When.To, S b e f, I p1.Total], I p2] w0 (fun (_r : (List ApiFinding)) (u : Hdr) => S u.1 u.2.1 u.2.2) (fun (r : (List ApiFinding)) (u : Hdr) => [ownE 64 3 encApiFinding u.1 u.2.1 u.2.2 r]) r := by
 refine calls_v (n := 67) r hr Tryz.func48 ?_
 unfold m_recyclingref59_missing
 refine sr <| bx 3 [S _ _ _, S _ _ _, S _ _ _, S _ _ _, S _ _ _, I _] rfl fun b5 => bx 4 [I _, I _, I _, I _, S _ _ _, I _] rfl fun b6 => la 1 ((6, S _ _ _) :: _) rfl <| nn <| sr <| lm_slice0 13 (el := 64) (sz := 3) (bytes := 24) (enc := encApiFinding) (by kernel_rfl) (by kernel_rfl) fun A7 n8 k9 bb => la 1 ((7, S _ _ _) :: _) rfl <| nn <| sr <| vf 15 4 4 rfl <| vc 16 2 rfl rfl rfl <| vf 17 2 2 rfl <| vR 18 [I _, I _] 1 rfl rfl rfl <| lc 19 (fun r1 hr1 w1 c1 => m_recyclingref53_Base_ok N w1 p0.Tariffs p1.When l t x (ab.old c1) ac r1 hr1) fun Y a1 => la 5 ((9, I _) :: (8, S _ _ _) :: (21, I _) :: (20, S _ _ _) :: (14, .tuple _) :: _) rfl <| nn <| cm_join (σ := (List ApiFinding)) (ξ := Hdr) (fun ad m => [(2, I p2), (3, .pointer (some ⟨b5, 0, none⟩)), (4, .pointer (some ⟨b6, 0, none⟩)), (7, S m.1 m.2.1 m.2.2)]) (fun ad m => [blkE b5 28 [S M O Q, S U V X, S o C G, S q J K, S l t x, I p0.Gap], blkE b6 52 [I p1.ID, I p1.Household, I p1.When.From, I p1.When.To, S b e f, I p1.Total], ownE 64 3 encApiFinding m.1 m.2.1 m.2.2 ad]) ?_ ?_
 ·refine sr <| la 1 ((10, I _) :: _) rfl <| nn <| cm_block <| cm_loop (σ := Int) (ξ := Unit) (fun L af => [(2, I p2), (3, .pointer (some ⟨b5, 0, none⟩)), (4, .pointer (some ⟨b6, 0, none⟩)), (7, S A7 n8 k9), (8, S a1.1 a1.2.1 a1.2.2), (10, I L)]) (fun L af => [blkE b5 28 [S M O Q, S U V X, S o C G, S q J K, S l t x, I p0.Gap], blkE b6 52 [I p1.ID, I p1.Household, I p1.When.From, I p1.When.To, S b e f, I p1.Total], ownE 64 3 encApiFinding A7 n8 k9 ([] : List ApiFinding), ownE 100 5 encApiItem a1.1 a1.2.1 a1.2.2 Y.1]) () ?_ ?_ ?_
  ·exact sq
  ·exact sh [3, 2, 1, 0]
  intro L af
  refine cm_seq <| sr <| la 2 ((23, S _ _ _) :: (22, I _) :: _) rfl <| v_ 24 (fun _ c1 => op_lenN rfl (by kernel_rfl) (c1.ownZ 3 rfl).2.2) <| la 1 ((25, B _) :: _) rfl <| nn <| cc rfl (fun b0 => ?_) (fun b0 => ?_)
  ·refine sk <| cm_seq <| cm_block <| cm_seq <| cm_ck (fun a4 => ?_)
   refine cm_bind fun ag ah => cm_drawn [(35, B (!ag))] (by kernel_rfl) (by kernel_rfl) ?_ ?_
   ·exact qf 28 4 4 rfl <| qc 29 1 rfl rfl rfl <| qa 2 ((31, I _) :: (30, S _ _ _) :: _) rfl <| q_ 32 (fun _ c1 => oI 5 rfl rfl ((c1.own 3 rfl encApiItem_len).addr a4.1 a4.2) (c1.ownZ 3 rfl).2.2 a4) <| q_ 33 (fun _ c1 => oR [I ((ix Y.1 L).Kind), I ((ix Y.1 L).Ref), I ((ix Y.1 L).Count), I ((ix Y.1 L).Price), I ((ix Y.1 L).Amount)] ((c1.own 3 rfl encApiItem_len).row a4.1 a4.2)) <| qk 34 (fun w1 c1 => m_recyclingref59_has_ok N w1 p1.Items (ix Y.1 L) b e f (a2.old c1) a3 ag ah) <| qa 1 ((35, B _) :: _) rfl <| lq 8
   refine xm_next <| cB rfl (fun ai => ?_) (fun ai => ?_)
   ·refine sr <| la 2 ((37, I _) :: (36, S _ _ _) :: _) rfl <| v_ 38 (fun _ _ => op_build (z := [I 0, I 0, I 0]) (tab := [(0, 1), (1, 1), (2, 1)]) (cs := [I _, I _, I _]) [(0, [I _]), (1, [I _])] (by kernel_rfl) (by kernel_rfl) (fillOk_cons rfl rfl rfl (fillOk_cons rfl rfl rfl fillOk_nil)) rfl) <| lm_slice1 39 (el := 64) (sz := 3) (bytes := 24) (enc := encApiFinding) (ApiFinding.mk 12 p2 0) (by kernel_rfl) (by kernel_rfl) encApiFinding_len rfl (by kernel_rfl) fun b1 b2 b3 b4 => lm_ck (fun aj => ?_)
    exact ap 40 3 (el := 64) (sz := 3) (bytes := 24) (enc := encApiFinding) (l2 := ([(ApiFinding.mk 12 p2 0)])) encApiFinding_len encApiFinding_one rfl rfl rfl (fun w1 c1 => (c1.ownZ 0 rfl)) (fun w1 c1 => (c1.own 0 rfl encApiFinding_len)) aj fun ak am an => la 1 ((7, S _ _ _) :: _) rfl <| nn <| cm_exit <| xm_pass (by kernel_rfl) <| xm_thenE <| xm_lexit <| xm_here <| xn (ak, am, an) [1, 2, 3]
   ·refine cm_skip <| xm_inN <| xm_next <| cm_region <| la 1 ((26, I _) :: _) rfl <| lm_ck (fun ao => ?_)
    exact va 27 ao rfl rfl <| la 1 ((10, I _) :: _) rfl <| lm_nil <| xn () [0, 1, 2, 3]
  ·exact cm_exit <| xm_thenE <| xm_lexit <| xm_here <| xn (A7, n8, k9) [0, 1, 2]
 intro ad m
 refine sr <| vR 41 [S _ _ _, S _ _ _, S _ _ _, S _ _ _, S _ _ _, I _] 0 rfl rfl rfl <| vR 42 [I _, I _, I _, I _, S _ _ _, I _] 1 rfl rfl rfl <| lc 43 (fun r1 hr1 w1 c1 => m_recyclingref59_counting_ok N w1 p0 p1 M O Q U V X o C G q J K l t x b e f (a7.old c1) a8 (a9.old c1) aa r1 hr1) fun y d => la 1 ((11, S _ _ _) :: _) rfl <| nn <| cm_join (σ := (List ApiFinding)) (ξ := Hdr) (fun a5 g => [(7, S g.1 g.2.1 g.2.2)]) (fun a5 g => [ownE 64 3 encApiFinding g.1 g.2.1 g.2.2 a5]) ?_ ?_
 ·refine sr <| la 1 ((12, I _) :: _) rfl <| nn <| cm_block <| cm_loop (σ := (List ApiFinding) × Int) (ξ := Hdr) (fun j a => [(2, I p2), (4, .pointer (some ⟨b6, 0, none⟩)), (7, S a.1 a.2.1 a.2.2), (11, S d.1 d.2.1 d.2.2), (12, I j.2)]) (fun j a => [blkE b6 52 [I p1.ID, I p1.Household, I p1.When.From, I p1.When.To, S b e f, I p1.Total], ownE 64 3 encApiFinding a.1 a.2.1 a.2.2 j.1, ownE 3 1 encI d.1 d.2.1 d.2.2 y]) (m.1, m.2.1, m.2.2) ?_ ?_ ?_
  ·exact sq
  ·exact sh [2, 3, 0]
  intro j a
  refine cm_seq <| sr <| la 2 ((45, S _ _ _) :: (44, I _) :: _) rfl <| v_ 46 (fun _ c1 => op_lenN rfl (by kernel_rfl) (c1.ownZ 2 rfl).2.2) <| la 1 ((47, B _) :: _) rfl <| nn <| cc rfl (fun aq => ?_) (fun aq => ?_)
  ·refine sk <| cm_join (σ := (List ApiFinding)) (ξ := Hdr) (fun a6 i => [(2, I p2), (4, .pointer (some ⟨b6, 0, none⟩)), (7, S i.1 i.2.1 i.2.2), (11, S d.1 d.2.1 d.2.2), (12, I j.2)]) (fun a6 i => [blkE b6 52 [I p1.ID, I p1.Household, I p1.When.From, I p1.When.To, S b e f, I p1.Total], ownE 64 3 encApiFinding i.1 i.2.1 i.2.2 a6, ownE 3 1 encI d.1 d.2.1 d.2.2 y]) ?_ ?_
   ·refine cm_block <| cm_seq <| cm_ck (fun Z => ?_)
    refine cm_bind fun ae ar => cm_drawn [(56, B (!ae))] (by kernel_rfl) (by kernel_rfl) ?_ ?_
    ·exact qR 50 [I _, I _, I _, I _, S _ _ _, I _] 0 rfl rfl rfl <| qa 2 ((52, I _) :: (51, S _ _ _) :: _) rfl <| q_ 53 (fun _ c1 => oI 1 rfl rfl ((c1.own 2 rfl encI_len).addr Z.1 Z.2) (c1.ownZ 2 rfl).2.2 Z) <| q_ 54 (fun _ c1 => oL (v := I (ix y j.2)) ((c1.own 2 rfl encI_len).cell0 Z.1 Z.2 rfl)) <| qk 55 (fun w1 c1 => m_recyclingref59_billed_ok N w1 p1 (ix y j.2) b e f (a2.old c1) a3 ae ar) <| qa 1 ((56, B _) :: _) rfl <| lq 7
    refine xm_next <| cB rfl (fun au => ?_) (fun au => ?_)
    ·refine cm_region <| la 4 ((60, I _) :: (59, S _ _ _) :: (58, I _) :: (57, S _ _ _) :: _) rfl <| lm_ck (fun a0 => ?_)
     refine v_ 61 (fun _ c1 => oI 1 rfl rfl ((c1.own 2 rfl encI_len).addr a0.1 a0.2) (c1.ownZ 2 rfl).2.2 a0) <| v_ 62 (fun _ c1 => oL (v := I (ix y j.2)) ((c1.own 2 rfl encI_len).cell0 a0.1 a0.2 rfl)) <| v_ 63 (fun _ _ => op_build (z := [I 0, I 0, I 0]) (tab := [(0, 1), (1, 1), (2, 1)]) (cs := [I _, I _, I _]) [(0, [I _]), (1, [I _]), (2, [I _])] (by kernel_rfl) (by kernel_rfl) (fillOk_cons rfl rfl rfl (fillOk_cons rfl rfl rfl (fillOk_cons rfl rfl rfl fillOk_nil))) rfl) <| lm_slice1 64 (el := 64) (sz := 3) (bytes := 24) (enc := encApiFinding) (ApiFinding.mk 12 p2 (ix y j.2)) (by kernel_rfl) (by kernel_rfl) encApiFinding_len rfl (by kernel_rfl) fun b7 b8 b9 ba => lm_ck (fun av => ?_)
     exact ap 65 2 (el := 64) (sz := 3) (bytes := 24) (enc := encApiFinding) (l2 := ([(ApiFinding.mk 12 p2 (ix y j.2))])) encApiFinding_len encApiFinding_one rfl rfl rfl (fun w1 c1 => (c1.ownZ 0 rfl)) (fun w1 c1 => (c1.own 0 rfl encApiFinding_len)) av fun aw ax ay => la 1 ((7, S _ _ _) :: _) rfl <| lm_nil <| xm_inN <| xn (aw, ax, ay) [1, 2, 3]
    ·exact cm_skip <| xm_inN <| xn (a.1, a.2.1, a.2.2) [0, 1, 2]
   intro a6 i
   refine cm_region <| la 1 ((48, I _) :: _) rfl <| lm_ck (fun az => ?_)
   exact va 49 az rfl rfl <| la 1 ((12, I _) :: _) rfl <| lm_nil <| xn (i.1, i.2.1, i.2.2) [0, 1, 2]
  ·exact cm_exit <| xm_thenE <| xm_lexit <| xm_here <| xn (a.1, a.2.1, a.2.2) [1]
 intro a5 g
 exact sr <| la 2 ((6, S _ _ _) :: (66, S _ _ _) :: _) rfl <| nn <| cm_ret <| xr [0] (g.1, g.2.1, g.2.2)
/-- recyclingref59.in -/
def m_recyclingref59_in (N : Nat) (p0 : (List Int)) (p1 : Int) : Option (Bool) :=
 (andThen
  (loopM (fun (a : Int) =>
   (if a < (List.length p0 : Int) then
    ck (0 ≤ a ∧ a < (List.length p0 : Int)) (
     (if (ix p0 a) = p1 then
      some (.done (.done (true)))
     else
      ck (I64 (a + 1)) (
       some (.next (a + 1)))))
   else
    some (.done (.next ())))) N 0)
 fun (_s23 : Unit) =>
  some (false))
set_option maxRecDepth 20000 in
theorem m_recyclingref59_in_ok (N : Nat) (w0 : World) (p0 : (List Int)) (p1 : Int) (a : Ad) (b d : Nat) (e : RdE w0 1 encI a p0) (f : SW a b d (List.length p0)) (r : Bool) (hr : m_recyclingref59_in N p0 p1 = some r) :
  Ret Tryz.prog 50 [S a b d, I p1] w0 VB H0 r := by
 refine calls_v (n := 18) r hr Tryz.func50 ?_
 unfold m_recyclingref59_in
 refine sr <| la 1 ((4, B false) :: _) rfl <| nn <| cm_join (σ := Unit) (ξ := Unit) (fun j l => []) (fun j l => []) ?_ ?_
 ·refine sr <| la 1 ((5, I _) :: _) rfl <| nn <| cm_block <| cm_loop (σ := Int) (ξ := Unit) (fun g m => [(0, S a b d), (1, I p1), (5, I g)]) (fun g m => []) () ?_ ?_ ?_
  ·exact sq
  ·exact sh []
  intro g m
  refine cm_seq <| sr <| la 2 ((7, S _ _ _) :: (6, I _) :: _) rfl <| vn 8 f rfl <| la 1 ((9, B _) :: _) rfl <| nn <| cc rfl (fun o => ?_) (fun o => ?_)
  ·refine sk <| cm_seq <| cm_block <| sr <| la 2 ((13, I _) :: (12, S _ _ _) :: _) rfl <| lm_ck (fun i => ?_)
   refine vi 14 1 e f i rfl rfl <| v_ 15 (fun _ c1 => oL (v := I (ix p0 g)) ((e.old c1).cell0 i.1 i.2 rfl)) <| la 2 ((17, B _) :: (16, I _) :: _) rfl <| nn <| cc rfl (fun q => ?_) (fun q => ?_)
   ·exact sr <| la 1 ((4, B true) :: _) rfl <| nn <| cm_ret <| xm_inR <| xm_thenR <| xm_lret <| xm_inR <| xm_lret <| xr [] ()
   ·refine cm_skip <| xm_inN <| xm_next <| cm_region <| la 1 ((10, I _) :: _) rfl <| lm_ck (fun t => ?_)
    exact va 11 t rfl rfl <| la 1 ((5, I _) :: _) rfl <| lm_nil <| xn () []
  ·exact cm_exit <| xm_thenE <| xm_lexit <| xm_here <| xm_lnext () sub_nil (sh [])
 intro j l
 exact sr <| la 1 ((4, B false) :: _) rfl <| nn <| cm_ret <| xr [] ()
/-- recyclingref59.charged -/
def m_recyclingref59_charged (N : Nat) (p0 : ApiBill) (p1 : Int) : Option (Int) :=
 (andThen
  (loopM (fun (a : Int × Int) =>
   (if a.2 < (List.length p0.Items : Int) then
    (andThen
     (ck (0 ≤ a.2 ∧ a.2 < (List.length p0.Items : Int)) (
      (if ((decide ((ix p0.Items a.2).Ref = p1)) && (decide ((ix p0.Items a.2).Kind ≠ 1))) = true then
       ck (I64 (a.1 + (max (-1000000000001 : Int) (min (1000000000001 : Int) ((ix p0.Items a.2).Amount))))) (
        some (.next (a.1 + (max (-1000000000001 : Int) (min (1000000000001 : Int) ((ix p0.Items a.2).Amount))))))
      else
       some (.next a.1))))
    fun (b : Int) =>
     ck (I64 (a.2 + 1)) (
      some (.next (b, (a.2 + 1)))))
   else
    some (.done (.next a.1)))) N ((0 : Int), (0 : Int)))
 fun (d : Int) =>
  some (d))
set_option maxRecDepth 20000 in
theorem m_recyclingref59_charged_ok (N : Nat) (w0 : World) (p0 : ApiBill) (p1 : Int) (a : Ad) (b d : Nat) (f : RdE w0 5 encApiItem a p0.Items) (g : SW a b d (List.length p0.Items)) (r : Int) (hr : m_recyclingref59_charged N p0 p1 = some r) :
  Ret Tryz.prog 52 [.agg #[I p0.ID, I p0.Household, I p0.When.From, I p0.When.To, S a b d, I p0.Total], I p1] w0 VI H0 r := by
 refine calls_v (n := 36) r hr Tryz.func52 ?_
 unfold m_recyclingref59_charged
 refine sr <| bx 2 [I _, I _, I _, I _, S _ _ _, I _] rfl fun b5 => la 1 ((4, I _) :: _) rfl <| nn <| sr <| la 1 ((5, I _) :: _) rfl <| nn <| cm_join (σ := Int) (ξ := Unit) (fun j m => [(5, I j)]) (fun j m => []) ?_ ?_
 ·refine sr <| la 1 ((6, I _) :: _) rfl <| nn <| cm_block <| cm_loop (σ := Int × Int) (ξ := Unit) (fun e o => [(1, I p1), (2, .pointer (some ⟨b5, 0, none⟩)), (5, I e.1), (6, I e.2)]) (fun e o => [blkE b5 52 [I p0.ID, I p0.Household, I p0.When.From, I p0.When.To, S a b d, I p0.Total]]) () ?_ ?_ ?_
  ·exact sq
  ·exact sh [0]
  intro e o
  refine cm_seq <| sr <| la 1 ((8, I _) :: _) rfl <| vf 9 4 4 rfl <| vc 10 0 rfl rfl rfl <| vn 11 g rfl <| la 1 ((12, B _) :: _) rfl <| nn <| cc rfl (fun C => ?_) (fun C => ?_)
  ·refine sk <| cm_join (σ := Int) (ξ := Unit) (fun l q => [(1, I p1), (2, .pointer (some ⟨b5, 0, none⟩)), (5, I l), (6, I e.2)]) (fun l q => [blkE b5 52 [I p0.ID, I p0.Household, I p0.When.From, I p0.When.To, S a b d, I p0.Total]]) ?_ ?_
   ·refine cm_block <| sr <| vf 15 4 4 rfl <| vc 16 0 rfl rfl rfl <| la 1 ((17, I _) :: _) rfl <| lm_ck (fun t => ?_)
    refine vi 18 5 f g t rfl rfl <| vr 19 f t rfl <| al 7 [I 0, I 0, I 0, I 0, I 0] (v := .agg #[I 0, I 0, I 0, I 0, I 0]) rfl fun G => sA 0 [I _, I _, I _, I _, I _] [_, _, _, _, _] (H' := [blkE _ _ [_, _, _, _, _], _]) rfl rfl rfl rfl rfl rfl <| nn <| cm_seq <| cm_cutE [(28, B ((decide ((ix p0.Items e.2).Ref = p1)) && (decide ((ix p0.Items e.2).Kind ≠ 1))))] ?_ ?_
    ·refine qf 20 1 1 rfl <| qc 21 0 rfl rfl rfl <| qa 1 ((22, I _) :: _) rfl <| qd 23 (fun _ _ => op_eql rfl rfl) (fun i => ?_) (fun i => ?_)
     ·exact qa 1 ((24, B true) :: _) rfl <| qf 25 0 0 rfl <| qc 26 0 rfl rfl rfl <| qa 2 ((28, B _) :: (27, B _) :: _) rfl <| lb 9 rfl (by rw [dt i] <;> rfl)
     ·exact qa 5 ((28, B false) :: uz 27 3 ((24, B false) :: _)) rfl <| lb 9 rfl (by rw [df i] <;> rfl)
    refine xm_next <| cB rfl (fun x => ?_) (fun x => ?_)
    ·refine cm_region <| la 1 ((29, I _) :: _) rfl <| vf 30 4 4 rfl <| vc 31 0 rfl rfl rfl <| v_ 32 (fun _ _ => op_min rfl rfl) <| v_ 33 (fun _ _ => op_max rfl rfl) <| lm_ck (fun y => ?_)
     exact va 34 y rfl rfl <| la 1 ((5, I _) :: _) rfl <| lm_nil <| xm_inN <| xn () [1]
    ·exact cm_skip <| xm_inN <| xn () [1]
   intro l q
   refine cm_region <| la 1 ((13, I _) :: _) rfl <| lm_ck (fun z => ?_)
   exact va 14 z rfl rfl <| la 1 ((6, I _) :: _) rfl <| lm_nil <| xn () [0]
  ·exact cm_exit <| xm_thenE <| xm_lexit <| xm_here <| xn () []
 intro j m
 exact sr <| la 2 ((4, I _) :: (35, I _) :: _) rfl <| nn <| cm_ret <| xr [] ()
/-- recyclingref59.bill -/
def m_recyclingref59_bill (N : Nat) (p0 : ApiBooks) (p1 : Int) : Option ((List ApiFinding)) :=
 ck (0 ≤ p1 ∧ p1 < (List.length p0.Bills : Int)) (
  Option.bind (m_recyclingref59_wellFormed N p0.Account (ix p0.Bills p1)) fun C => (if (!C) = true then
   some ([(ApiFinding.mk 11 p1 (-1))])
  else
   (andThen
    (Option.bind (m_recyclingref59_totalRight N (ix p0.Bills p1)) fun G => (if (!G) = true then
     ck ((List.length ([] : List ApiFinding) + List.length ([(ApiFinding.mk 10 p1 0)])) * 24 ≤ 140737488355328) (
      some (.next (([] : List ApiFinding) ++ ([(ApiFinding.mk 10 p1 0)]))))
    else
     some (.next ([] : List ApiFinding))))
   fun (J : (List ApiFinding)) =>
    (andThen
     (loopM (fun (d : (List ApiFinding) × Int) =>
      (if d.2 < (List.length ((ix p0.Bills p1).Items) : Int) then
       (andThen
        (ck (0 ≤ d.2 ∧ d.2 < (List.length ((ix p0.Bills p1).Items) : Int)) (
         Option.bind (m_recyclingref59_itemRight N p0.Account (ix p0.Bills p1) (ix ((ix p0.Bills p1).Items) d.2)) fun l => (if (!l) = true then
          ck ((List.length d.1 + List.length ([(ApiFinding.mk 11 p1 d.2)])) * 24 ≤ 140737488355328) (
           some (.next (d.1 ++ ([(ApiFinding.mk 11 p1 d.2)]))))
         else
          some (.next d.1))))
       fun (m : (List ApiFinding)) =>
        ck (I64 (d.2 + 1)) (
         some (.next (m, (d.2 + 1)))))
      else
       some (.done (.next d.1)))) N (J, (0 : Int)))
    fun (f : (List ApiFinding)) =>
     Option.bind (m_recyclingref59_missing N p0.Account (ix p0.Bills p1) p1) fun g => ck ((List.length f + List.length g) * 24 ≤ 140737488355328) (
      Option.bind (m_recyclingref59_counting N p0.Account (ix p0.Bills p1)) fun o => (andThen
       (loopM (fun (a : (List ApiFinding) × (List Int) × Int) =>
        (if a.2.2 < (List.length ((ix p0.Bills p1).Items) : Int) then
         (andThen
          (ck (0 ≤ a.2.2 ∧ a.2.2 < (List.length ((ix p0.Bills p1).Items) : Int)) (
           callIf ((!(decide ((ix ((ix p0.Bills p1).Items) a.2.2).Kind ≠ 2))) = true) (m_recyclingref59_in N a.2.1 ((ix ((ix p0.Bills p1).Items) a.2.2).Ref)) fun q => (if ((decide ((ix ((ix p0.Bills p1).Items) a.2.2).Kind ≠ 2)) || q) = true then
            some (.next (a.1, a.2.1))
           else
            ck ((List.length a.2.1 + List.length ([(ix ((ix p0.Bills p1).Items) a.2.2).Ref])) * 8 ≤ 140737488355328) (
             Option.bind (m_recyclingref59_belongs N p0.Account (ix p0.Bills p1) ((ix ((ix p0.Bills p1).Items) a.2.2).Ref)) fun e => callIf (e = true) (m_recyclingref59_in N o ((ix ((ix p0.Bills p1).Items) a.2.2).Ref)) fun i => callIf ((e && (!i)) = true) (m_recyclingref59_charged N (ix p0.Bills p1) ((ix ((ix p0.Bills p1).Items) a.2.2).Ref)) fun t => (if ((e && (!i)) && (decide (t ≠ 0))) = true then
              ck ((List.length a.1 + List.length ([(ApiFinding.mk 13 p1 ((ix ((ix p0.Bills p1).Items) a.2.2).Ref))])) * 24 ≤ 140737488355328) (
               some (.next ((a.1 ++ ([(ApiFinding.mk 13 p1 ((ix ((ix p0.Bills p1).Items) a.2.2).Ref))])), (a.2.1 ++ ([(ix ((ix p0.Bills p1).Items) a.2.2).Ref])))))
             else
              some (.next (a.1, (a.2.1 ++ ([(ix ((ix p0.Bills p1).Items) a.2.2).Ref])))))))))
         fun (j : (List ApiFinding) × (List Int)) =>
          ck (I64 (a.2.2 + 1)) (
           some (.next (j.1, j.2, (a.2.2 + 1)))))
        else
         some (.done (.next a.1)))) N ((f ++ g), ([] : List Int), (0 : Int)))
      fun (v : (List ApiFinding)) =>
       (andThen
        (loopM (fun (b : (List ApiFinding) × Int) =>
         (if b.2 < p1 then
          (andThen
           (ck (0 ≤ b.2 ∧ b.2 < (List.length p0.Bills : Int)) (
            Option.bind (m_recyclingref59_wellFormed N p0.Account (ix p0.Bills b.2)) fun x => (if ((x && (decide ((ix p0.Bills b.2).Household = (ix p0.Bills p1).Household))) && (decide ((max ((ix p0.Bills b.2).When.From) ((ix p0.Bills p1).When.From)) < (min ((ix p0.Bills b.2).When.To) ((ix p0.Bills p1).When.To))))) = true then
             ck ((List.length b.1 + List.length ([(ApiFinding.mk 14 p1 b.2)])) * 24 ≤ 140737488355328) (
              some (.next (b.1 ++ ([(ApiFinding.mk 14 p1 b.2)]))))
            else
             some (.next b.1))))
          fun (y : (List ApiFinding)) =>
           ck (I64 (b.2 + 1)) (
            some (.next (y, (b.2 + 1)))))
         else
          some (.done (.next b.1)))) N (v, (0 : Int)))
       fun (z : (List ApiFinding)) =>
        some (z))))))))
set_option maxHeartbeats 2000000 in
set_option maxRecDepth 20000 in
theorem m_recyclingref59_bill_ok (N : Nat) (w0 : World) (p0 : ApiBooks) (p1 : Int) (f : Ad) (g j : Nat) (C : Ad) (G J : Nat) (b : Ad) (l m : Nat) (d : Ad) (o q : Nat) (e : Ad) (t y : Nat) (ae : Ad) (af ag : Nat) (ah : Ad) (ai aj : Nat) (_dl : Int → Hdr) (ak : Ad) (am an : Nat) (ao : Ad) (aq ar : Nat) (Z : Ad) (a0 a1 : Nat) (a2 : Ad) (a3 a4 : Nat) (a5 : Ad) (a6 a7 : Nat) (a8 : Ad) (a9 aa : Nat) (Q : Ad) (V X : Nat) (a : Int → Hdr) (ab : Ad) (ac ad : Nat) (_dk : Int → Hdr) (bk : SW f g j (List.length p0.Account.Households)) (b6 : RdE w0 4 encApiAssign b p0.Account.Assigns) (b7 : SW b l m (List.length p0.Account.Assigns)) (b8 : RdE w0 7 encApiEmptying d p0.Account.Emptyings) (b9 : SW d o q (List.length p0.Account.Emptyings)) (bl : RdE w0 5 encApiTariff e p0.Account.Tariffs) (bm : SW e t y (List.length p0.Account.Tariffs)) (b4 : RdI w0 6 (fun (i : Int) (x : ApiBill) => encApiBill x (a i)) Q p0.Bills) (bf : SW Q V X (List.length p0.Bills)) (L : ∀ i : Int, 0 ≤ i ∧ i < (List.length p0.Bills : Int) → RdE w0 5 encApiItem (a i).1 (ix p0.Bills i).Items ∧ SW (a i).1 (a i).2.1 (a i).2.2 (List.length (ix p0.Bills i).Items)) (r : (List ApiFinding)) (hr : m_recyclingref59_bill N p0 p1 = some r) :
  Ret Tryz.prog 17 [.agg #[I p0.Now, S f g j, S C G J, S b l m, S d o q, S e t y, I p0.Account.Gap, S ae af ag, I p0.Inside, I p0.Bins, S ah ai aj, S ak am an, S ao aq ar, S Z a0 a1, S a2 a3 a4, S a5 a6 a7, S a8 a9 aa, S Q V X, S ab ac ad], I p1] w0 (fun (_r : (List ApiFinding)) (u : Hdr) => S u.1 u.2.1 u.2.2) (fun (r : (List ApiFinding)) (u : Hdr) => [ownE 64 3 encApiFinding u.1 u.2.1 u.2.2 r]) r := by
 refine calls_v (n := 166) r hr Tryz.func17 ?_
 unfold m_recyclingref59_bill
 refine sr <| bx 2 [I _, S _ _ _, S _ _ _, S _ _ _, S _ _ _, S _ _ _, I _, S _ _ _, I _, I _, S _ _ _, S _ _ _, S _ _ _, S _ _ _, S _ _ _, S _ _ _, S _ _ _, S _ _ _, S _ _ _] rfl fun b5 => la 1 ((4, S _ _ _) :: _) rfl <| nn <| cm_seq <| cm_ck (fun h6 => ?_)
 refine cm_held (ξ := Nat × Nat) (fun K => [(1, I p1), (2, .pointer (some ⟨b5, 0, none⟩)), (5, .pointer (some ⟨K.1, 0, none⟩)), (6, .pointer (some ⟨K.2, 0, none⟩))]) (fun K => [blkE b5 40 [I p0.Now, S f g j, S C G J, S b l m, S d o q, S e t y, I p0.Account.Gap, S ae af ag, I p0.Inside, I p0.Bins, S ah ai aj, S ak am an, S ao aq ar, S Z a0 a1, S a2 a3 a4, S a5 a6 a7, S a8 a9 aa, S Q V X, S ab ac ad], blkE K.1 28 [S f g j, S C G J, S b l m, S d o q, S e t y, I p0.Account.Gap], blkE K.2 52 [I ((ix p0.Bills p1).ID), I ((ix p0.Bills p1).Household), I ((ix p0.Bills p1).When.From), I ((ix p0.Bills p1).When.To), S ((a p1).1) ((a p1).2.1) ((a p1).2.2), I ((ix p0.Bills p1).Total)]]) [blkE b5 40 [I p0.Now, S f g j, S C G J, S b l m, S d o q, S e t y, I p0.Account.Gap, S ae af ag, I p0.Inside, I p0.Bins, S ah ai aj, S ak am an, S ao aq ar, S Z a0 a1, S a2 a3 a4, S a5 a6 a7, S a8 a9 aa, S Q V X, S ab ac ad]] 11 (by kernel_rfl) (by rfl) (hsub [0] (by kernel_rfl) (by rfl)) ?_ ?_
 ·intro ep ba
  refine wt 0 15 rfl (fun _ _ => oF 1 1 rfl) (hs [0] ba) <| wt 1 16 rfl (fun w2 c2 => (op_loadR [S _ _ _, S _ _ _, S _ _ _, S _ _ _, S _ _ _, I _] rfl (by kernel_rfl) (c2.cells 0 rfl rfl))) (hs [0] ba) <| wt 2 17 rfl (fun _ _ => oF 17 17 rfl) (hs [0] ba) <| wt 3 18 rfl (fun w2 c2 => oL (c2.cell 0 (u := S _ _ _) rfl rfl)) (hs [0] ba) <| wt 4 19 rfl (fun w2 c2 => (op_move (v := I _) rfl)) (hs [0] ba) <| wt 5 20 rfl (fun w2 c2 => oI 6 rfl rfl ((b4.old c2).addr h6.1 h6.2) bf.2.2 h6) (hs [0] ba) <| wt 6 21 rfl (fun w2 c2 => (op_loadR [I ((ix p0.Bills p1).ID), I ((ix p0.Bills p1).Household), I ((ix p0.Bills p1).When.From), I ((ix p0.Bills p1).When.To), S ((a p1).1) ((a p1).2.1) ((a p1).2.2), I ((ix p0.Bills p1).Total)] rfl (by kernel_rfl) ((b4.old c2).row h6.1 h6.2))) (hs [0] ba) <| wh_ready [7, 8] (by kernel_rfl) rfl ⟨?_, ?_, trivial⟩
  ·refine ws_alloc 5 [S none 0 0, S none 0 0, S none 0 0, S none 0 0, S none 0 0, I 0] (v := .agg #[S none 0 0, S none 0 0, S none 0 0, S none 0 0, S none 0 0, I 0]) rfl (by kernel_rfl) (by kernel_rfl) rfl ba fun dm eq c8 => ⟨(hs [1] c8), ?_⟩
   refine wh_ready [8] (by kernel_rfl) rfl ⟨?_, trivial⟩
   refine ws_alloc 6 [I 0, I 0, I 0, I 0, S none 0 0, I 0] (v := .agg #[I 0, I 0, I 0, I 0, S none 0 0, I 0]) rfl (by kernel_rfl) (by kernel_rfl) rfl c8 fun dn er c9 => ⟨(hs [2] c9), ?_⟩
   refine wh_ready [9] (by kernel_rfl) rfl ⟨?_, trivial⟩
   refine ws_storeA 1 [S _ _ _, S _ _ _, S _ _ _, S _ _ _, S _ _ _, I _] [_, _, _, _, _, _] rfl (by kernel_rfl) rfl rfl (by kernel_rfl) rfl rfl (by kernel_rfl) rfl (H' := [_, blkE _ _ [_, _, _, _, _, _], _]) rfl c9 fun es ca => ⟨(hs [2] ca), ?_⟩
   refine wh_ready [10] (by kernel_rfl) rfl ⟨?_, trivial⟩
   refine ws_storeA 0 [I _, I _, I _, I _, S _ _ _, I _] [_, _, _, _, _, _] rfl (by kernel_rfl) rfl rfl (by kernel_rfl) rfl rfl (by kernel_rfl) rfl (H' := [blkE _ _ [_, _, _, _, _, _], _, _]) rfl ca fun et cb => ⟨(hs [2] cb), ?_⟩
   exact wh_done (dm, dn) (by kernel_rfl) sq (hs [2, 1, 0] cb)
  ·refine ws_alloc 6 [I 0, I 0, I 0, I 0, S none 0 0, I 0] (v := .agg #[I 0, I 0, I 0, I 0, S none 0 0, I 0]) rfl (by kernel_rfl) (by kernel_rfl) rfl ba fun dp eu cd => ⟨(hs [1] cd), ?_⟩
   refine wh_ready [7] (by kernel_rfl) rfl ⟨?_, trivial⟩
   refine ws_alloc 5 [S none 0 0, S none 0 0, S none 0 0, S none 0 0, S none 0 0, I 0] (v := .agg #[S none 0 0, S none 0 0, S none 0 0, S none 0 0, S none 0 0, I 0]) rfl (by kernel_rfl) (by kernel_rfl) rfl cd fun dq ev ce => ⟨(hs [2] ce), ?_⟩
   refine wh_ready [9] (by kernel_rfl) rfl ⟨?_, trivial⟩
   refine ws_storeA 0 [S _ _ _, S _ _ _, S _ _ _, S _ _ _, S _ _ _, I _] [_, _, _, _, _, _] rfl (by kernel_rfl) rfl rfl (by kernel_rfl) rfl rfl (by kernel_rfl) rfl (H' := [blkE _ _ [_, _, _, _, _, _], _, _]) rfl ce fun ew cf => ⟨(hs [2] cf), ?_⟩
   refine wh_ready [10] (by kernel_rfl) rfl ⟨?_, trivial⟩
   refine ws_storeA 1 [I _, I _, I _, I _, S _ _ _, I _] [_, _, _, _, _, _] rfl (by kernel_rfl) rfl rfl (by kernel_rfl) rfl rfl (by kernel_rfl) rfl (H' := [_, blkE _ _ [_, _, _, _, _, _], _]) rfl cf fun ex cg => ⟨(hs [2] cg), ?_⟩
   exact wh_done (dq, dp) (by kernel_rfl) sq (hs [2, 0, 1] cg)
 intro K
 refine xm_next <| cm_seq <| sr <| vR 22 [S _ _ _, S _ _ _, S _ _ _, S _ _ _, S _ _ _, I _] 1 rfl rfl rfl <| vR 23 [I _, I _, I _, I _, S _ _ _, I _] 2 rfl rfl rfl <| lc 24 (fun r1 hr1 w1 c1 => m_recyclingref59_wellFormed_ok N w1 p0.Account (ix p0.Bills p1) f g j C G J b l m d o q e t y ((a p1).1) ((a p1).2.1) ((a p1).2.2) bk r1 hr1) fun ey ez => la 1 ((25, B _) :: _) rfl <| nn <| cB rfl (fun dr => ?_) (fun dr => ?_)
 ·exact sr <| la 1 ((26, I _) :: _) rfl <| v_ 27 (fun _ _ => op_build (z := [I 0, I 0, I 0]) (tab := [(0, 1), (1, 1), (2, 1)]) (cs := [I _, I _, I _]) [(0, [I _]), (1, [I _]), (2, [I _])] (by kernel_rfl) (by kernel_rfl) (fillOk_cons rfl rfl rfl (fillOk_cons rfl rfl rfl (fillOk_cons rfl rfl rfl fillOk_nil))) rfl) <| lm_slice1 28 (el := 64) (sz := 3) (bytes := 24) (enc := encApiFinding) (ApiFinding.mk 11 p1 (-1)) (by kernel_rfl) (by kernel_rfl) encApiFinding_len rfl (by kernel_rfl) fun ds du dv f0 => la 1 ((4, S _ _ _) :: _) rfl <| nn <| cm_ret <| xm_thenR <| xr [0] (ds, du, dv)
 ·refine sk <| sr <| lm_slice0 29 (el := 64) (sz := 3) (bytes := 24) (enc := encApiFinding) (by kernel_rfl) (by kernel_rfl) fun dw dx dy f1 => la 1 ((7, S _ _ _) :: _) rfl <| nn <| cm_join (σ := (List ApiFinding)) (ξ := Hdr) (fun bu b2 => [(1, I p1), (2, .pointer (some ⟨b5, 0, none⟩)), (5, .pointer (some ⟨K.1, 0, none⟩)), (6, .pointer (some ⟨K.2, 0, none⟩)), (7, S b2.1 b2.2.1 b2.2.2)]) (fun bu b2 => [blkE b5 40 [I p0.Now, S f g j, S C G J, S b l m, S d o q, S e t y, I p0.Account.Gap, S ae af ag, I p0.Inside, I p0.Bins, S ah ai aj, S ak am an, S ao aq ar, S Z a0 a1, S a2 a3 a4, S a5 a6 a7, S a8 a9 aa, S Q V X, S ab ac ad], blkE K.1 28 [S f g j, S C G J, S b l m, S d o q, S e t y, I p0.Account.Gap], blkE K.2 52 [I ((ix p0.Bills p1).ID), I ((ix p0.Bills p1).Household), I ((ix p0.Bills p1).When.From), I ((ix p0.Bills p1).When.To), S ((a p1).1) ((a p1).2.1) ((a p1).2.2), I ((ix p0.Bills p1).Total)], ownE 64 3 encApiFinding b2.1 b2.2.1 b2.2.2 bu]) ?_ ?_
  ·refine sr <| vR 30 [I _, I _, I _, I _, S _ _ _, I _] 3 rfl rfl rfl <| lc 31 (fun r1 hr1 w1 c1 => m_recyclingref59_totalRight_ok N w1 (ix p0.Bills p1) ((a p1).1) ((a p1).2.1) ((a p1).2.2) ((L p1 h6).1.old c1) (L p1 h6).2 r1 hr1) fun f2 f3 => la 1 ((32, B _) :: _) rfl <| nn <| cB rfl (fun dz => ?_) (fun dz => ?_)
   ·refine cm_region <| la 2 ((34, I _) :: (33, S _ _ _) :: _) rfl <| v_ 35 (fun _ _ => op_build (z := [I 0, I 0, I 0]) (tab := [(0, 1), (1, 1), (2, 1)]) (cs := [I _, I _, I _]) [(0, [I _]), (1, [I _])] (by kernel_rfl) (by kernel_rfl) (fillOk_cons rfl rfl rfl (fillOk_cons rfl rfl rfl fillOk_nil)) rfl) <| lm_slice1 36 (el := 64) (sz := 3) (bytes := 24) (enc := encApiFinding) (ApiFinding.mk 10 p1 0) (by kernel_rfl) (by kernel_rfl) encApiFinding_len rfl (by kernel_rfl) fun f4 f5 f6 f7 => lm_ck (fun e0 => ?_)
    exact ap 37 1 (el := 64) (sz := 3) (bytes := 24) (enc := encApiFinding) (l2 := ([(ApiFinding.mk 10 p1 0)])) encApiFinding_len encApiFinding_one rfl rfl rfl (fun w1 c1 => (c1.ownZ 0 rfl)) (fun w1 c1 => (c1.own 0 rfl encApiFinding_len)) e0 fun e1 e2 e3 => la 1 ((7, S _ _ _) :: _) rfl <| lm_nil <| xn (e1, e2, e3) [2, 3, 4, 1]
   ·exact cm_skip <| xn (dw, dx, dy) [1, 2, 3, 0]
  intro bu b2
  refine cm_join (σ := (List ApiFinding)) (ξ := Hdr) (fun bn b3 => [(1, I p1), (2, .pointer (some ⟨b5, 0, none⟩)), (5, .pointer (some ⟨K.1, 0, none⟩)), (6, .pointer (some ⟨K.2, 0, none⟩)), (7, S b3.1 b3.2.1 b3.2.2)]) (fun bn b3 => [blkE b5 40 [I p0.Now, S f g j, S C G J, S b l m, S d o q, S e t y, I p0.Account.Gap, S ae af ag, I p0.Inside, I p0.Bins, S ah ai aj, S ak am an, S ao aq ar, S Z a0 a1, S a2 a3 a4, S a5 a6 a7, S a8 a9 aa, S Q V X, S ab ac ad], blkE K.1 28 [S f g j, S C G J, S b l m, S d o q, S e t y, I p0.Account.Gap], blkE K.2 52 [I ((ix p0.Bills p1).ID), I ((ix p0.Bills p1).Household), I ((ix p0.Bills p1).When.From), I ((ix p0.Bills p1).When.To), S ((a p1).1) ((a p1).2.1) ((a p1).2.2), I ((ix p0.Bills p1).Total)], ownE 64 3 encApiFinding b3.1 b3.2.1 b3.2.2 bn]) ?_ ?_
  ·refine sr <| la 1 ((8, I _) :: _) rfl <| nn <| cm_block <| cm_loop (σ := (List ApiFinding) × Int) (ξ := Hdr) (fun ax av => [(1, I p1), (2, .pointer (some ⟨b5, 0, none⟩)), (5, .pointer (some ⟨K.1, 0, none⟩)), (6, .pointer (some ⟨K.2, 0, none⟩)), (7, S av.1 av.2.1 av.2.2), (8, I ax.2)]) (fun ax av => [blkE b5 40 [I p0.Now, S f g j, S C G J, S b l m, S d o q, S e t y, I p0.Account.Gap, S ae af ag, I p0.Inside, I p0.Bins, S ah ai aj, S ak am an, S ao aq ar, S Z a0 a1, S a2 a3 a4, S a5 a6 a7, S a8 a9 aa, S Q V X, S ab ac ad], blkE K.1 28 [S f g j, S C G J, S b l m, S d o q, S e t y, I p0.Account.Gap], blkE K.2 52 [I ((ix p0.Bills p1).ID), I ((ix p0.Bills p1).Household), I ((ix p0.Bills p1).When.From), I ((ix p0.Bills p1).When.To), S ((a p1).1) ((a p1).2.1) ((a p1).2.2), I ((ix p0.Bills p1).Total)], ownE 64 3 encApiFinding av.1 av.2.1 av.2.2 ax.1]) (b2.1, b2.2.1, b2.2.2) ?_ ?_ ?_
   ·exact sq
   ·exact sh [0, 1, 2, 3]
   intro ax av
   refine cm_seq <| sr <| la 1 ((38, I _) :: _) rfl <| vf 39 4 4 rfl <| vc 40 2 rfl rfl rfl <| v_ 41 (fun _ _ => op_lenN rfl (by kernel_rfl) (L p1 h6).2.2.2) <| la 1 ((42, B _) :: _) rfl <| nn <| cc rfl (fun ch => ?_) (fun ch => ?_)
   ·refine sk <| cm_join (σ := (List ApiFinding)) (ξ := Hdr) (fun bo ay => [(1, I p1), (2, .pointer (some ⟨b5, 0, none⟩)), (5, .pointer (some ⟨K.1, 0, none⟩)), (6, .pointer (some ⟨K.2, 0, none⟩)), (7, S ay.1 ay.2.1 ay.2.2), (8, I ax.2)]) (fun bo ay => [blkE b5 40 [I p0.Now, S f g j, S C G J, S b l m, S d o q, S e t y, I p0.Account.Gap, S ae af ag, I p0.Inside, I p0.Bins, S ah ai aj, S ak am an, S ao aq ar, S Z a0 a1, S a2 a3 a4, S a5 a6 a7, S a8 a9 aa, S Q V X, S ab ac ad], blkE K.1 28 [S f g j, S C G J, S b l m, S d o q, S e t y, I p0.Account.Gap], blkE K.2 52 [I ((ix p0.Bills p1).ID), I ((ix p0.Bills p1).Household), I ((ix p0.Bills p1).When.From), I ((ix p0.Bills p1).When.To), S ((a p1).1) ((a p1).2.1) ((a p1).2.2), I ((ix p0.Bills p1).Total)], ownE 64 3 encApiFinding ay.1 ay.2.1 ay.2.2 bo]) ?_ ?_
    ·refine cm_block <| cm_seq <| cm_ck (fun bc => ?_)
     refine cm_bind fun bv ci => cm_drawn [(53, B (!bv))] (by kernel_rfl) (by kernel_rfl) ?_ ?_
     ·exact qR 45 [S _ _ _, S _ _ _, S _ _ _, S _ _ _, S _ _ _, I _] 1 rfl rfl rfl <| qR 46 [I _, I _, I _, I _, S _ _ _, I _] 2 rfl rfl rfl <| qf 47 4 4 rfl <| qc 48 2 rfl rfl rfl <| qa 1 ((49, I _) :: _) rfl <| q_ 50 (fun _ c1 => oI 5 rfl rfl (((L p1 h6).1.old c1).addr bc.1 bc.2) (L p1 h6).2.2.2 bc) <| q_ 51 (fun _ c1 => oR [I ((ix ((ix p0.Bills p1).Items) ax.2).Kind), I ((ix ((ix p0.Bills p1).Items) ax.2).Ref), I ((ix ((ix p0.Bills p1).Items) ax.2).Count), I ((ix ((ix p0.Bills p1).Items) ax.2).Price), I ((ix ((ix p0.Bills p1).Items) ax.2).Amount)] (((L p1 h6).1.old c1).row bc.1 bc.2)) <| qk 52 (fun w1 c1 => m_recyclingref59_itemRight_ok N w1 p0.Account (ix p0.Bills p1) (ix ((ix p0.Bills p1).Items) ax.2) f g j C G J b l m d o q e t y ((a p1).1) ((a p1).2.1) ((a p1).2.2) (b6.old c1) b7 (b8.old c1) b9 (bl.old c1) bm bv ci) <| qa 1 ((53, B _) :: _) rfl <| lq 9
     refine xm_next <| cB rfl (fun cj => ?_) (fun cj => ?_)
     ·refine cm_region <| la 3 ((56, I _) :: (55, I _) :: (54, S _ _ _) :: _) rfl <| v_ 57 (fun _ _ => op_build (z := [I 0, I 0, I 0]) (tab := [(0, 1), (1, 1), (2, 1)]) (cs := [I _, I _, I _]) [(0, [I _]), (1, [I _]), (2, [I _])] (by kernel_rfl) (by kernel_rfl) (fillOk_cons rfl rfl rfl (fillOk_cons rfl rfl rfl (fillOk_cons rfl rfl rfl fillOk_nil))) rfl) <| lm_slice1 58 (el := 64) (sz := 3) (bytes := 24) (enc := encApiFinding) (ApiFinding.mk 11 p1 ax.2) (by kernel_rfl) (by kernel_rfl) encApiFinding_len rfl (by kernel_rfl) fun e4 e5 e6 e7 => lm_ck (fun ck => ?_)
      exact ap 59 4 (el := 64) (sz := 3) (bytes := 24) (enc := encApiFinding) (l2 := ([(ApiFinding.mk 11 p1 ax.2)])) encApiFinding_len encApiFinding_one rfl rfl rfl (fun w1 c1 => (c1.ownZ 0 rfl)) (fun w1 c1 => (c1.own 0 rfl encApiFinding_len)) ck fun cl cm cn => la 1 ((7, S _ _ _) :: _) rfl <| lm_nil <| xm_inN <| xn (cl, cm, cn) [1, 2, 3, 4]
     ·exact cm_skip <| xm_inN <| xn (av.1, av.2.1, av.2.2) [0, 1, 2, 3]
    intro bo ay
    refine cm_region <| la 1 ((43, I _) :: _) rfl <| lm_ck (fun co => ?_)
    exact va 44 co rfl rfl <| la 1 ((8, I _) :: _) rfl <| lm_nil <| xn (ay.1, ay.2.1, ay.2.2) [0, 1, 2, 3]
   ·exact cm_exit <| xm_thenE <| xm_lexit <| xm_here <| xn (av.1, av.2.1, av.2.2) [0, 1, 2, 3]
  intro bn b3
  refine sr <| la 1 ((60, S _ _ _) :: _) rfl <| vR 61 [S _ _ _, S _ _ _, S _ _ _, S _ _ _, S _ _ _, I _] 1 rfl rfl rfl <| vR 62 [I _, I _, I _, I _, S _ _ _, I _] 2 rfl rfl rfl <| la 1 ((63, I _) :: _) rfl <| lc 64 (fun r1 hr1 w1 c1 => m_recyclingref59_missing_ok N w1 p0.Account (ix p0.Bills p1) p1 f g j C G J b l m d o q e t y ((a p1).1) ((a p1).2.1) ((a p1).2.2) (b6.old c1) b7 (b8.old c1) b9 (bl.old c1) bm ((L p1 h6).1.old c1) (L p1 h6).2 r1 hr1) fun cp e8 => lm_ck (fun cq => ?_)
  refine ap 65 4 (el := 64) (sz := 3) (bytes := 24) (enc := encApiFinding) (l2 := cp) encApiFinding_len encApiFinding_one rfl rfl rfl (fun w1 c1 => (c1.ownZ 0 rfl)) (fun w1 c1 => (c1.own 0 rfl encApiFinding_len)) cq fun cr ct cu => la 1 ((7, S _ _ _) :: _) rfl <| nn <| sr <| vR 66 [S _ _ _, S _ _ _, S _ _ _, S _ _ _, S _ _ _, I _] 2 rfl rfl rfl <| vR 67 [I _, I _, I _, I _, S _ _ _, I _] 3 rfl rfl rfl <| lc 68 (fun r1 hr1 w1 c1 => m_recyclingref59_counting_ok N w1 p0.Account (ix p0.Bills p1) f g j C G J b l m d o q e t y ((a p1).1) ((a p1).2.1) ((a p1).2.2) (b6.old c1) b7 (b8.old c1) b9 r1 hr1) fun bp au => la 1 ((9, S _ _ _) :: _) rfl <| nn <| sr <| lm_slice0 69 (el := 3) (sz := 1) (bytes := 8) (enc := encI) (by kernel_rfl) (by kernel_rfl) fun cv cw cx e9 => la 1 ((10, S _ _ _) :: _) rfl <| nn <| cm_join (σ := (List ApiFinding)) (ξ := Hdr) (fun bq az => [(1, I p1), (2, .pointer (some ⟨b5, 0, none⟩)), (5, .pointer (some ⟨K.1, 0, none⟩)), (6, .pointer (some ⟨K.2, 0, none⟩)), (7, S az.1 az.2.1 az.2.2)]) (fun bq az => [blkE b5 40 [I p0.Now, S f g j, S C G J, S b l m, S d o q, S e t y, I p0.Account.Gap, S ae af ag, I p0.Inside, I p0.Bins, S ah ai aj, S ak am an, S ao aq ar, S Z a0 a1, S a2 a3 a4, S a5 a6 a7, S a8 a9 aa, S Q V X, S ab ac ad], blkE K.1 28 [S f g j, S C G J, S b l m, S d o q, S e t y, I p0.Account.Gap], blkE K.2 52 [I ((ix p0.Bills p1).ID), I ((ix p0.Bills p1).Household), I ((ix p0.Bills p1).When.From), I ((ix p0.Bills p1).When.To), S ((a p1).1) ((a p1).2.1) ((a p1).2.2), I ((ix p0.Bills p1).Total)], ownE 64 3 encApiFinding az.1 az.2.1 az.2.2 bq]) ?_ ?_
  ·refine sr <| la 1 ((11, I _) :: _) rfl <| nn <| cm_block <| cm_loop (σ := (List ApiFinding) × (List Int) × Int) (ξ := (Option Addr) × Nat × Nat × (Option Addr) × Nat × Nat) (fun U M => [(1, I p1), (2, .pointer (some ⟨b5, 0, none⟩)), (5, .pointer (some ⟨K.1, 0, none⟩)), (6, .pointer (some ⟨K.2, 0, none⟩)), (7, S M.1 M.2.1 M.2.2.1), (9, S au.1 au.2.1 au.2.2), (10, S M.2.2.2.1 M.2.2.2.2.1 M.2.2.2.2.2), (11, I U.2.2)]) (fun U M => [blkE b5 40 [I p0.Now, S f g j, S C G J, S b l m, S d o q, S e t y, I p0.Account.Gap, S ae af ag, I p0.Inside, I p0.Bins, S ah ai aj, S ak am an, S ao aq ar, S Z a0 a1, S a2 a3 a4, S a5 a6 a7, S a8 a9 aa, S Q V X, S ab ac ad], blkE K.1 28 [S f g j, S C G J, S b l m, S d o q, S e t y, I p0.Account.Gap], blkE K.2 52 [I ((ix p0.Bills p1).ID), I ((ix p0.Bills p1).Household), I ((ix p0.Bills p1).When.From), I ((ix p0.Bills p1).When.To), S ((a p1).1) ((a p1).2.1) ((a p1).2.2), I ((ix p0.Bills p1).Total)], ownE 64 3 encApiFinding M.1 M.2.1 M.2.2.1 U.1, ownE 3 1 encI au.1 au.2.1 au.2.2 bp, ownE 3 1 encI M.2.2.2.1 M.2.2.2.2.1 M.2.2.2.2.2 U.2.1]) (cr, ct, cu, cv, cw, cx) ?_ ?_ ?_
   ·exact sq
   ·exact sh [3, 4, 5, 6, 1, 0]
   intro U M
   refine cm_seq <| sr <| la 1 ((70, I _) :: _) rfl <| vf 71 4 4 rfl <| vc 72 2 rfl rfl rfl <| v_ 73 (fun _ _ => op_lenN rfl (by kernel_rfl) (L p1 h6).2.2.2) <| la 1 ((74, B _) :: _) rfl <| nn <| cc rfl (fun cy => ?_) (fun cy => ?_)
   ·refine sk <| cm_join (σ := (List ApiFinding) × (List Int)) (ξ := (Option Addr) × Nat × Nat × (Option Addr) × Nat × Nat) (fun bg Y => [(1, I p1), (2, .pointer (some ⟨b5, 0, none⟩)), (5, .pointer (some ⟨K.1, 0, none⟩)), (6, .pointer (some ⟨K.2, 0, none⟩)), (7, S Y.1 Y.2.1 Y.2.2.1), (9, S au.1 au.2.1 au.2.2), (10, S Y.2.2.2.1 Y.2.2.2.2.1 Y.2.2.2.2.2), (11, I U.2.2)]) (fun bg Y => [blkE b5 40 [I p0.Now, S f g j, S C G J, S b l m, S d o q, S e t y, I p0.Account.Gap, S ae af ag, I p0.Inside, I p0.Bins, S ah ai aj, S ak am an, S ao aq ar, S Z a0 a1, S a2 a3 a4, S a5 a6 a7, S a8 a9 aa, S Q V X, S ab ac ad], blkE K.1 28 [S f g j, S C G J, S b l m, S d o q, S e t y, I p0.Account.Gap], blkE K.2 52 [I ((ix p0.Bills p1).ID), I ((ix p0.Bills p1).Household), I ((ix p0.Bills p1).When.From), I ((ix p0.Bills p1).When.To), S ((a p1).1) ((a p1).2.1) ((a p1).2.2), I ((ix p0.Bills p1).Total)], ownE 64 3 encApiFinding Y.1 Y.2.1 Y.2.2.1 bg.1, ownE 3 1 encI au.1 au.2.1 au.2.2 bp, ownE 3 1 encI Y.2.2.2.1 Y.2.2.2.2.1 Y.2.2.2.2.2 bg.2]) ?_ ?_
    ·refine cm_block <| sr <| vf 77 4 4 rfl <| vc 78 2 rfl rfl rfl <| la 1 ((79, I _) :: _) rfl <| lm_ck (fun bd => ?_)
     refine v_ 80 (fun _ c1 => oI 5 rfl rfl (((L p1 h6).1.old c1).addr bd.1 bd.2) (L p1 h6).2.2.2 bd) <| v_ 81 (fun _ c1 => oR [I ((ix ((ix p0.Bills p1).Items) U.2.2).Kind), I ((ix ((ix p0.Bills p1).Items) U.2.2).Ref), I ((ix ((ix p0.Bills p1).Items) U.2.2).Count), I ((ix ((ix p0.Bills p1).Items) U.2.2).Price), I ((ix ((ix p0.Bills p1).Items) U.2.2).Amount)] (((L p1 h6).1.old c1).row bd.1 bd.2)) <| al 12 [I 0, I 0, I 0, I 0, I 0] (v := .agg #[I 0, I 0, I 0, I 0, I 0]) rfl fun ea => sA 0 [I _, I _, I _, I _, I _] [_, _, _, _, _] (H' := [blkE _ _ [_, _, _, _, _], _, _, _, _, _, _]) rfl rfl rfl rfl rfl rfl <| nn <| cm_seq <| cm_seq <| cm_callIf fun bw cz => cm_cutE [(90, B ((decide ((ix ((ix p0.Bills p1).Items) U.2.2).Kind ≠ 2)) || bw))] ?_ ?_
     ·refine qf 82 0 0 rfl <| qc 83 0 rfl rfl rfl <| qd 84 (fun _ _ => op_neq rfl rfl) (fun bh => ?_) (fun bh => ?_)
      ·exact qa 6 ((90, B true) :: uz 89 4 ((85, B true) :: _)) rfl <| lb 9 rfl (by rw [dt bh] <;> rfl)
      ·exact qa 2 ((86, S _ _ _) :: (85, B false) :: _) rfl <| qf 87 1 1 rfl <| qc 88 0 rfl rfl rfl <| qk 89 (fun w1 c1 => m_recyclingref59_in_ok N w1 U.2.1 ((ix ((ix p0.Bills p1).Items) U.2.2).Ref) M.2.2.2.1 M.2.2.2.2.1 M.2.2.2.2.2 (c1.own 6 rfl encI_len) (c1.ownZ 6 rfl) bw (cz (by rw [df bh] <;> rfl))) <| qa 1 ((90, B _) :: _) rfl <| lb 9 rfl (by rw [df bh] <;> rfl)
     refine xm_next <| cB rfl (fun d0 => ?_) (fun d0 => ?_)
     ·exact cm_exit <| xm_thenE <| xm_here <| xn (M.1, M.2.1, M.2.2.1, M.2.2.2.1, M.2.2.2.2.1, M.2.2.2.2.2) [1, 2, 3, 4, 5, 6]
     ·refine sk <| sr <| la 1 ((91, S _ _ _) :: _) rfl <| vf 92 1 1 rfl <| vc 93 0 rfl rfl rfl <| lm_slice1 94 (el := 3) (sz := 1) (bytes := 8) (enc := encI) ((ix ((ix p0.Bills p1).Items) U.2.2).Ref) (by kernel_rfl) (by kernel_rfl) encI_len rfl (by kernel_rfl) fun eb ec ed ee => lm_ck (fun d1 => ?_)
      refine ap 95 7 (el := 3) (sz := 1) (bytes := 8) (enc := encI) (l2 := ([(ix ((ix p0.Bills p1).Items) U.2.2).Ref])) encI_len encI_one rfl rfl rfl (fun w1 c1 => (c1.ownZ 0 rfl)) (fun w1 c1 => (c1.own 0 rfl encI_len)) d1 fun bz c0 c3 => la 1 ((10, S _ _ _) :: _) rfl <| nn <| cm_seq <| cm_bind fun c4 d2 => cm_callIf fun c5 d3 => cm_callIf fun c6 d4 => cm_cutE [(114, B ((c4 && (!c5)) && (decide (c6 ≠ 0))))] ?_ ?_
      ·refine qR 96 [S _ _ _, S _ _ _, S _ _ _, S _ _ _, S _ _ _, I _] 3 rfl rfl rfl <| qR 97 [I _, I _, I _, I _, S _ _ _, I _] 4 rfl rfl rfl <| qf 98 1 1 rfl <| qc 99 1 rfl rfl rfl <| qkb 100 (fun w1 c1 => m_recyclingref59_belongs_ok N w1 p0.Account (ix p0.Bills p1) ((ix ((ix p0.Bills p1).Items) U.2.2).Ref) f g j C G J b l m d o q e t y ((a p1).1) ((a p1).2.1) ((a p1).2.2) (b6.old c1) b7 (b8.old c1) b9 c4 d2) (fun bb => ?_) (fun bb => ?_)
       ·refine qa 2 ((102, S _ _ _) :: (101, B true) :: _) rfl <| qf 103 1 1 rfl <| qc 104 1 rfl rfl rfl <| qkb 105 (fun w1 c1 => m_recyclingref59_in_ok N w1 bp ((ix ((ix p0.Bills p1).Items) U.2.2).Ref) au.1 au.2.1 au.2.2 (c1.own 6 rfl encI_len) (c1.ownZ 6 rfl) c5 (d3 (by rw [bb] <;> rfl))) (fun bi => ?_) (fun bi => ?_)
        ·exact qa 9 ((114, B false) :: uz 113 5 ((108, B false) :: (107, B false) :: (106, B false) :: _)) rfl <| lb 19 rfl (by rw [bb, bi] <;> rfl)
        ·exact qa 3 ((108, B true) :: (107, B true) :: (106, B true) :: _) rfl <| qR 109 [I _, I _, I _, I _, S _ _ _, I _] 4 rfl rfl rfl <| qf 110 1 1 rfl <| qc 111 1 rfl rfl rfl <| qk 112 (fun w1 c1 => m_recyclingref59_charged_ok N w1 (ix p0.Bills p1) ((ix ((ix p0.Bills p1).Items) U.2.2).Ref) ((a p1).1) ((a p1).2.1) ((a p1).2.2) ((L p1 h6).1.old c1) (L p1 h6).2 c6 (d4 (by rw [bb, bi] <;> rfl))) <| qa 2 ((114, B _) :: (113, B _) :: _) rfl <| lb 19 rfl (by rw [bb, bi] <;> rfl)
       ·exact qa 14 ((114, B false) :: uz 113 5 ((108, B false) :: (107, B false) :: uz 106 5 ((101, B false) :: _))) rfl <| lb 19 rfl (by rw [bb] <;> rfl)
      refine xm_next <| cB rfl (fun d5 => ?_) (fun d5 => ?_)
      ·refine cm_region <| la 2 ((116, I _) :: (115, S _ _ _) :: _) rfl <| vf 117 1 1 rfl <| vc 118 1 rfl rfl rfl <| v_ 119 (fun _ _ => op_build (z := [I 0, I 0, I 0]) (tab := [(0, 1), (1, 1), (2, 1)]) (cs := [I _, I _, I _]) [(0, [I _]), (1, [I _]), (2, [I _])] (by kernel_rfl) (by kernel_rfl) (fillOk_cons rfl rfl rfl (fillOk_cons rfl rfl rfl (fillOk_cons rfl rfl rfl fillOk_nil))) rfl) <| lm_slice1 120 (el := 64) (sz := 3) (bytes := 24) (enc := encApiFinding) (ApiFinding.mk 13 p1 ((ix ((ix p0.Bills p1).Items) U.2.2).Ref)) (by kernel_rfl) (by kernel_rfl) encApiFinding_len rfl (by kernel_rfl) fun ef eg eh ei => lm_ck (fun d6 => ?_)
       exact ap 121 6 (el := 64) (sz := 3) (bytes := 24) (enc := encApiFinding) (l2 := ([(ApiFinding.mk 13 p1 ((ix ((ix p0.Bills p1).Items) U.2.2).Ref))])) encApiFinding_len encApiFinding_one rfl rfl rfl (fun w1 c1 => (c1.ownZ 0 rfl)) (fun w1 c1 => (c1.own 0 rfl encApiFinding_len)) d6 fun d7 d8 d9 => la 1 ((7, S _ _ _) :: _) rfl <| lm_nil <| xm_inN <| xn (d7, d8, d9, bz, c0, c3) [3, 4, 5, 6, 7, 8]
      ·exact cm_skip <| xm_inN <| xn (M.1, M.2.1, M.2.2.1, bz, c0, c3) [2, 3, 4, 5, 6, 7]
    intro bg Y
    refine cm_region <| la 1 ((75, I _) :: _) rfl <| lm_ck (fun da => ?_)
    exact va 76 da rfl rfl <| la 1 ((11, I _) :: _) rfl <| lm_nil <| xn (Y.1, Y.2.1, Y.2.2.1, Y.2.2.2.1, Y.2.2.2.2.1, Y.2.2.2.2.2) [0, 1, 2, 3, 4, 5]
   ·exact cm_exit <| xm_thenE <| xm_lexit <| xm_here <| xn (M.1, M.2.1, M.2.2.1) [0, 1, 2, 3]
  intro bq az
  refine cm_join (σ := (List ApiFinding)) (ξ := Hdr) (fun br b0 => [(7, S b0.1 b0.2.1 b0.2.2)]) (fun br b0 => [ownE 64 3 encApiFinding b0.1 b0.2.1 b0.2.2 br]) ?_ ?_
  ·refine sr <| la 1 ((13, I _) :: _) rfl <| nn <| cm_block <| cm_loop (σ := (List ApiFinding) × Int) (ξ := Hdr) (fun O aw => [(1, I p1), (2, .pointer (some ⟨b5, 0, none⟩)), (5, .pointer (some ⟨K.1, 0, none⟩)), (6, .pointer (some ⟨K.2, 0, none⟩)), (7, S aw.1 aw.2.1 aw.2.2), (13, I O.2)]) (fun O aw => [blkE b5 40 [I p0.Now, S f g j, S C G J, S b l m, S d o q, S e t y, I p0.Account.Gap, S ae af ag, I p0.Inside, I p0.Bins, S ah ai aj, S ak am an, S ao aq ar, S Z a0 a1, S a2 a3 a4, S a5 a6 a7, S a8 a9 aa, S Q V X, S ab ac ad], blkE K.1 28 [S f g j, S C G J, S b l m, S d o q, S e t y, I p0.Account.Gap], blkE K.2 52 [I ((ix p0.Bills p1).ID), I ((ix p0.Bills p1).Household), I ((ix p0.Bills p1).When.From), I ((ix p0.Bills p1).When.To), S ((a p1).1) ((a p1).2.1) ((a p1).2.2), I ((ix p0.Bills p1).Total)], ownE 64 3 encApiFinding aw.1 aw.2.1 aw.2.2 O.1]) (az.1, az.2.1, az.2.2) ?_ ?_ ?_
   ·exact sq
   ·exact sh [0, 1, 2, 3]
   intro O aw
   refine cm_seq <| sr <| la 3 ((124, B _) :: (123, I _) :: (122, I _) :: _) rfl <| nn <| cc rfl (fun db => ?_) (fun db => ?_)
   ·refine sk <| cm_join (σ := (List ApiFinding)) (ξ := Hdr) (fun bs b1 => [(1, I p1), (2, .pointer (some ⟨b5, 0, none⟩)), (5, .pointer (some ⟨K.1, 0, none⟩)), (6, .pointer (some ⟨K.2, 0, none⟩)), (7, S b1.1 b1.2.1 b1.2.2), (13, I O.2)]) (fun bs b1 => [blkE b5 40 [I p0.Now, S f g j, S C G J, S b l m, S d o q, S e t y, I p0.Account.Gap, S ae af ag, I p0.Inside, I p0.Bins, S ah ai aj, S ak am an, S ao aq ar, S Z a0 a1, S a2 a3 a4, S a5 a6 a7, S a8 a9 aa, S Q V X, S ab ac ad], blkE K.1 28 [S f g j, S C G J, S b l m, S d o q, S e t y, I p0.Account.Gap], blkE K.2 52 [I ((ix p0.Bills p1).ID), I ((ix p0.Bills p1).Household), I ((ix p0.Bills p1).When.From), I ((ix p0.Bills p1).When.To), S ((a p1).1) ((a p1).2.1) ((a p1).2.2), I ((ix p0.Bills p1).Total)], ownE 64 3 encApiFinding b1.1 b1.2.1 b1.2.2 bs]) ?_ ?_
    ·refine cm_block <| sr <| vf 127 17 17 rfl <| vc 128 0 rfl rfl rfl <| la 1 ((129, I _) :: _) rfl <| lm_ck (fun be => ?_)
     refine v_ 130 (fun _ c1 => oI 6 rfl rfl ((b4.old c1).addr be.1 be.2) bf.2.2 be) <| v_ 131 (fun _ c1 => oR [I ((ix p0.Bills O.2).ID), I ((ix p0.Bills O.2).Household), I ((ix p0.Bills O.2).When.From), I ((ix p0.Bills O.2).When.To), S ((a O.2).1) ((a O.2).2.1) ((a O.2).2.2), I ((ix p0.Bills O.2).Total)] ((b4.old c1).row be.1 be.2)) <| al 14 [I 0, I 0, I 0, I 0, S none 0 0, I 0] (v := .agg #[I 0, I 0, I 0, I 0, S none 0 0, I 0]) rfl fun ej => sA 0 [I _, I _, I _, I _, S _ _ _, I _] [_, _, _, _, _, _] (H' := [blkE _ _ [_, _, _, _, _, _], _, _, _, _]) rfl rfl rfl rfl rfl rfl <| nn <| cm_seq <| cm_bind fun c7 dc => cm_cutE [(158, B ((c7 && (decide ((ix p0.Bills O.2).Household = (ix p0.Bills p1).Household))) && (decide ((max ((ix p0.Bills O.2).When.From) ((ix p0.Bills p1).When.From)) < (min ((ix p0.Bills O.2).When.To) ((ix p0.Bills p1).When.To))))))] ?_ ?_
     ·refine qR 132 [S _ _ _, S _ _ _, S _ _ _, S _ _ _, S _ _ _, I _] 2 rfl rfl rfl <| qR 133 [I _, I _, I _, I _, S _ _ _, I _] 0 rfl rfl rfl <| qkb 134 (fun w1 c1 => m_recyclingref59_wellFormed_ok N w1 p0.Account (ix p0.Bills O.2) f g j C G J b l m d o q e t y ((a O.2).1) ((a O.2).2.1) ((a O.2).2.2) bk c7 dc) (fun bj => ?_) (fun bj => ?_)
      ·refine qa 1 ((135, B true) :: _) rfl <| qf 136 1 1 rfl <| qc 137 0 rfl rfl rfl <| qf 138 1 1 rfl <| qc 139 3 rfl rfl rfl <| qd 140 (fun _ _ => op_eql rfl rfl) (fun bt => ?_) (fun bt => ?_)
       ·exact qa 2 ((142, B true) :: (141, B true) :: _) rfl <| qf 143 2 2 rfl <| qf 144 0 2 rfl <| qc 145 0 rfl rfl rfl <| qf 146 2 2 rfl <| qf 147 0 2 rfl <| qc 148 3 rfl rfl rfl <| q_ 149 (fun _ _ => op_max rfl rfl) <| qf 150 2 2 rfl <| qf 151 1 3 rfl <| qc 152 0 rfl rfl rfl <| qf 153 2 2 rfl <| qf 154 1 3 rfl <| qc 155 3 rfl rfl rfl <| q_ 156 (fun _ _ => op_min rfl rfl) <| qa 2 ((158, B _) :: (157, B _) :: _) rfl <| lb 27 rfl (by rw [bj, dt bt] <;> rfl)
       ·exact qa 18 ((158, B false) :: uz 157 15 ((142, B false) :: (141, B false) :: _)) rfl <| lb 27 rfl (by rw [bj, df bt] <;> rfl)
      ·exact qa 24 ((158, B false) :: uz 157 15 ((142, B false) :: (141, B false) :: uz 140 5 ((135, B false) :: _))) rfl <| lb 27 rfl (by rw [bj] <;> rfl)
     refine xm_next <| cB rfl (fun dd => ?_) (fun dd => ?_)
     ·refine cm_region <| la 3 ((161, I _) :: (160, I _) :: (159, S _ _ _) :: _) rfl <| v_ 162 (fun _ _ => op_build (z := [I 0, I 0, I 0]) (tab := [(0, 1), (1, 1), (2, 1)]) (cs := [I _, I _, I _]) [(0, [I _]), (1, [I _]), (2, [I _])] (by kernel_rfl) (by kernel_rfl) (fillOk_cons rfl rfl rfl (fillOk_cons rfl rfl rfl (fillOk_cons rfl rfl rfl fillOk_nil))) rfl) <| lm_slice1 163 (el := 64) (sz := 3) (bytes := 24) (enc := encApiFinding) (ApiFinding.mk 14 p1 O.2) (by kernel_rfl) (by kernel_rfl) encApiFinding_len rfl (by kernel_rfl) fun ek em en eo => lm_ck (fun de => ?_)
      exact ap 164 5 (el := 64) (sz := 3) (bytes := 24) (enc := encApiFinding) (l2 := ([(ApiFinding.mk 14 p1 O.2)])) encApiFinding_len encApiFinding_one rfl rfl rfl (fun w1 c1 => (c1.ownZ 0 rfl)) (fun w1 c1 => (c1.own 0 rfl encApiFinding_len)) de fun dg dh di => la 1 ((7, S _ _ _) :: _) rfl <| lm_nil <| xm_inN <| xn (dg, dh, di) [2, 3, 4, 5]
     ·exact cm_skip <| xm_inN <| xn (aw.1, aw.2.1, aw.2.2) [1, 2, 3, 4]
    intro bs b1
    refine cm_region <| la 1 ((125, I _) :: _) rfl <| lm_ck (fun dj => ?_)
    exact va 126 dj rfl rfl <| la 1 ((13, I _) :: _) rfl <| lm_nil <| xn (b1.1, b1.2.1, b1.2.2) [0, 1, 2, 3]
   ·exact cm_exit <| xm_thenE <| xm_lexit <| xm_here <| xn (aw.1, aw.2.1, aw.2.2) [3]
  intro br b0
  exact sr <| la 2 ((4, S _ _ _) :: (165, S _ _ _) :: _) rfl <| nn <| cm_ret <| xr [0] (b0.1, b0.2.1, b0.2.2)
/-- recyclingref59.Bills -/
def m_recyclingref59_Bills (N : Nat) (p0 : ApiBooks) : Option ((List ApiFinding) × Int) :=
 (if 512 < (List.length p0.Bills : Int) then
  some ((([] : List ApiFinding), (8 : Int)))
 else
  (andThen
   (loopM (fun (b : Int) =>
    (if b < (List.length p0.Bills : Int) then
     ck (0 ≤ b ∧ b < (List.length p0.Bills : Int)) (
      (if 512 < (List.length ((ix p0.Bills b).Items) : Int) then
       some (.done (.done ((([] : List ApiFinding), (8 : Int)))))
      else
       ck (I64 (b + 1)) (
        some (.next (b + 1)))))
    else
     some (.done (.next ())))) N 0)
  fun (_s25 : Unit) =>
   Option.bind (m_recyclingref54_Check N p0.Account) fun e => (if e ≠ 0 then
    some ((([] : List ApiFinding), e))
   else
    (andThen
     (loopM (fun (a : (List ApiFinding) × Int) =>
      (if a.2 < (List.length p0.Bills : Int) then
       Option.bind (m_recyclingref59_bill N p0 a.2) fun d => ck ((List.length a.1 + List.length d) * 24 ≤ 140737488355328) (
        ck (I64 (a.2 + 1)) (
         some (.next ((a.1 ++ d), (a.2 + 1)))))
      else
       some (.done (.next a.1)))) N (([] : List ApiFinding), (0 : Int)))
    fun (f : (List ApiFinding)) =>
     some ((f, (0 : Int)))))))
set_option maxHeartbeats 2000000 in
set_option maxRecDepth 20000 in
theorem m_recyclingref59_Bills_ok (N : Nat) (w0 : World) (p0 : ApiBooks) (e : Ad) (z C : Nat) (f : Ad) (G J : Nat) (g : Ad) (K L : Nat) (l : Ad) (M O : Nat) (o : Ad) (Q U : Nat) (ad : Ad) (ae af : Nat) (ag : Ad) (ah ai : Nat) (b6 : Int → Hdr) (aj : Ad) (ak am : Nat) (an : Ad) (ao aq : Nat) (V : Ad) (X Y : Nat) (Z : Ad) (a0 a1 : Nat) (a2 : Ad) (a3 a4 : Nat) (a5 : Ad) (a6 a7 : Nat) (b : Ad) (q t : Nat) (a : Int → Hdr) (a8 : Ad) (a9 aa : Nat) (b4 : Int → Hdr) (b7 : RdE w0 2 encApiHousehold e p0.Account.Households) (ax : SW e z C (List.length p0.Account.Households)) (b8 : RdE w0 5 encApiContainer f p0.Account.Containers) (b9 : SW f G J (List.length p0.Account.Containers)) (ay : RdE w0 4 encApiAssign g p0.Account.Assigns) (az : SW g K L (List.length p0.Account.Assigns)) (b0 : RdE w0 7 encApiEmptying l p0.Account.Emptyings) (b1 : SW l M O (List.length p0.Account.Emptyings)) (b2 : RdE w0 5 encApiTariff o p0.Account.Tariffs) (b3 : SW o Q U (List.length p0.Account.Tariffs)) (ar : RdI w0 6 (fun (i : Int) (x : ApiBill) => encApiBill x (a i)) b p0.Bills) (y : SW b q t (List.length p0.Bills)) (ac : ∀ i : Int, 0 ≤ i ∧ i < (List.length p0.Bills : Int) → RdE w0 5 encApiItem (a i).1 (ix p0.Bills i).Items ∧ SW (a i).1 (a i).2.1 (a i).2.2 (List.length (ix p0.Bills i).Items)) (r : (List ApiFinding) × Int) (hr : m_recyclingref59_Bills N p0 = some r) :
  Ret Tryz.prog 8 [.agg #[I p0.Now, S e z C, S f G J, S g K L, S l M O, S o Q U, I p0.Account.Gap, S ad ae af, I p0.Inside, I p0.Bins, S ag ah ai, S aj ak am, S an ao aq, S V X Y, S Z a0 a1, S a2 a3 a4, S a5 a6 a7, S b q t, S a8 a9 aa]] w0 (fun (r : (List ApiFinding) × Int) (u : Hdr) => .tuple #[S u.1 u.2.1 u.2.2, I r.2]) (fun (r : (List ApiFinding) × Int) (u : Hdr) => [ownE 64 3 encApiFinding u.1 u.2.1 u.2.2 r.1]) r := by
 refine calls_v (n := 47) r hr Tryz.func8 ?_
 unfold m_recyclingref59_Bills
 refine sr <| bx 1 [I _, S _ _ _, S _ _ _, S _ _ _, S _ _ _, S _ _ _, I _, S _ _ _, I _, I _, S _ _ _, S _ _ _, S _ _ _, S _ _ _, S _ _ _, S _ _ _, S _ _ _, S _ _ _, S _ _ _] rfl fun b5 => la 2 ((3, I _) :: (2, S _ _ _) :: _) rfl <| nn <| cm_seq <| sr <| vf 8 17 17 rfl <| vc 9 0 rfl rfl rfl <| vn 10 y rfl <| la 1 ((11, B _) :: _) rfl <| nn <| cc rfl (fun h6 => ?_) (fun h6 => ?_)
 ·exact sr <| la 2 ((3, I _) :: (2, S _ _ _) :: _) rfl <| nn <| cm_ret <| xm_thenR <| xm_nilrow 64 3 encApiFinding <| xrr [0] (none, 0, 0)
 ·refine sk <| cm_join (σ := Unit) (ξ := Unit) (fun bb bc => [(1, .pointer (some ⟨b5, 0, none⟩))]) (fun bb bc => [blkE b5 40 [I p0.Now, S e z C, S f G J, S g K L, S l M O, S o Q U, I p0.Account.Gap, S ad ae af, I p0.Inside, I p0.Bins, S ag ah ai, S aj ak am, S an ao aq, S V X Y, S Z a0 a1, S a2 a3 a4, S a5 a6 a7, S b q t, S a8 a9 aa]]) ?_ ?_
  ·refine sr <| la 1 ((4, I _) :: _) rfl <| nn <| cm_block <| cm_loop (σ := Int) (ξ := Unit) (fun au bd => [(1, .pointer (some ⟨b5, 0, none⟩)), (4, I au)]) (fun au bd => [blkE b5 40 [I p0.Now, S e z C, S f G J, S g K L, S l M O, S o Q U, I p0.Account.Gap, S ad ae af, I p0.Inside, I p0.Bins, S ag ah ai, S aj ak am, S an ao aq, S V X Y, S Z a0 a1, S a2 a3 a4, S a5 a6 a7, S b q t, S a8 a9 aa]]) () ?_ ?_ ?_
   ·exact sq
   ·exact sh [0]
   intro au bd
   refine cm_seq <| sr <| la 1 ((12, I _) :: _) rfl <| vf 13 17 17 rfl <| vc 14 0 rfl rfl rfl <| vn 15 y rfl <| la 1 ((16, B _) :: _) rfl <| nn <| cc rfl (fun bl => ?_) (fun bl => ?_)
   ·refine sk <| cm_seq <| cm_block <| sr <| vf 19 17 17 rfl <| vc 20 0 rfl rfl rfl <| la 1 ((21, I _) :: _) rfl <| lm_ck (fun aw => ?_)
    refine v_ 22 (fun _ c1 => oI 6 rfl rfl ((ar.old c1).addr aw.1 aw.2) y.2.2 aw) <| v_ 23 (fun _ _ => op_field (m := 4) rfl (by kernel_rfl)) <| v_ 24 (fun _ c1 => oL (v := S ((a au).1) ((a au).2.1) ((a au).2.2)) ((ar.old c1).cell (j := 4) aw.1 aw.2 rfl)) <| v_ 25 (fun _ _ => op_lenN rfl (by kernel_rfl) (ac au aw).2.2.2) <| la 1 ((26, B _) :: _) rfl <| nn <| cc rfl (fun bm => ?_) (fun bm => ?_)
    ·exact sr <| la 2 ((3, I _) :: (2, S _ _ _) :: _) rfl <| nn <| cm_ret <| xm_inR <| xm_thenR <| xm_lret <| xm_inR <| xm_lret <| xm_nilrow 64 3 encApiFinding <| xrr [0] (none, 0, 0)
    ·refine cm_skip <| xm_inN <| xm_next <| cm_region <| la 1 ((17, I _) :: _) rfl <| lm_ck (fun bn => ?_)
     exact va 18 bn rfl rfl <| la 1 ((4, I _) :: _) rfl <| lm_nil <| xn () [0]
   ·exact cm_exit <| xm_thenE <| xm_lexit <| xm_here <| xn () [0]
  intro bb bc
  refine sr <| vf 27 1 1 rfl <| vR 28 [S _ _ _, S _ _ _, S _ _ _, S _ _ _, S _ _ _, I _] 0 rfl rfl rfl <| lc 29 (fun r1 hr1 w1 c1 => m_recyclingref54_Check_ok N w1 p0.Account e z C f G J g K L l M O o Q U (b7.old c1) ax (b8.old c1) b9 (ay.old c1) az (b0.old c1) b1 (b2.old c1) b3 r1 hr1) fun bt bu => la 1 ((5, I _) :: _) rfl <| nn <| cm_seq <| sr <| la 2 ((31, B _) :: (30, I _) :: _) rfl <| nn <| cc rfl (fun bo => ?_) (fun bo => ?_)
  ·exact sr <| la 3 ((3, I _) :: (2, S _ _ _) :: (32, I _) :: _) rfl <| nn <| cm_ret <| xm_thenR <| xm_nilrow 64 3 encApiFinding <| xrr [0] (none, 0, 0)
  ·refine sk <| sr <| lm_slice0 33 (el := 64) (sz := 3) (bytes := 24) (enc := encApiFinding) (by kernel_rfl) (by kernel_rfl) fun bp bq br bv => la 1 ((6, S _ _ _) :: _) rfl <| nn <| cm_join (σ := (List ApiFinding)) (ξ := Hdr) (fun ba ab => [(6, S ab.1 ab.2.1 ab.2.2)]) (fun ba ab => [ownE 64 3 encApiFinding ab.1 ab.2.1 ab.2.2 ba]) ?_ ?_
   ·refine sr <| la 1 ((7, I _) :: _) rfl <| nn <| cm_block <| cm_loop (σ := (List ApiFinding) × Int) (ξ := Hdr) (fun av d => [(1, .pointer (some ⟨b5, 0, none⟩)), (6, S d.1 d.2.1 d.2.2), (7, I av.2)]) (fun av d => [blkE b5 40 [I p0.Now, S e z C, S f G J, S g K L, S l M O, S o Q U, I p0.Account.Gap, S ad ae af, I p0.Inside, I p0.Bins, S ag ah ai, S aj ak am, S an ao aq, S V X Y, S Z a0 a1, S a2 a3 a4, S a5 a6 a7, S b q t, S a8 a9 aa], ownE 64 3 encApiFinding d.1 d.2.1 d.2.2 av.1]) (bp, bq, br) ?_ ?_ ?_
    ·exact sq
    ·exact sh [1, 0]
    intro av d
    refine cm_seq <| sr <| la 1 ((34, I _) :: _) rfl <| vf 35 17 17 rfl <| vc 36 0 rfl rfl rfl <| vn 37 y rfl <| la 1 ((38, B _) :: _) rfl <| nn <| cc rfl (fun be => ?_) (fun be => ?_)
    ·refine sk <| cm_seq <| cm_block <| cm_region <| la 1 ((41, S _ _ _) :: _) rfl <| vR 42 [I _, S _ _ _, S _ _ _, S _ _ _, S _ _ _, S _ _ _, I _, S _ _ _, I _, I _, S _ _ _, S _ _ _, S _ _ _, S _ _ _, S _ _ _, S _ _ _, S _ _ _, S _ _ _, S _ _ _] 0 rfl rfl rfl <| la 1 ((43, I _) :: _) rfl <| lc 44 (fun r1 hr1 w1 c1 => m_recyclingref59_bill_ok N w1 p0 av.2 e z C f G J g K L l M O o Q U ad ae af ag ah ai b6 aj ak am an ao aq V X Y Z a0 a1 a2 a3 a4 a5 a6 a7 b q t a a8 a9 aa b4 ax (ay.old c1) az (b0.old c1) b1 (b2.old c1) b3 (ar.old c1) y (fun i hi => ⟨(ac i hi).1.old c1, (ac i hi).2⟩) r1 hr1) fun bf bs => lm_ck (fun bg => ?_)
     refine ap 45 2 (el := 64) (sz := 3) (bytes := 24) (enc := encApiFinding) (l2 := bf) encApiFinding_len encApiFinding_one rfl rfl rfl (fun w1 c1 => (c1.ownZ 0 rfl)) (fun w1 c1 => (c1.own 0 rfl encApiFinding_len)) bg fun bh bi bj => la 1 ((6, S _ _ _) :: _) rfl <| lm_nil <| xm_inN <| xm_next <| cm_region <| la 1 ((39, I _) :: _) rfl <| lm_ck (fun bk => ?_)
     exact va 40 bk rfl rfl <| la 1 ((7, I _) :: _) rfl <| lm_nil <| xn (bh, bi, bj) [1, 2]
    ·exact cm_exit <| xm_thenE <| xm_lexit <| xm_here <| xn (d.1, d.2.1, d.2.2) [1]
   intro ba ab
   exact sr <| la 3 ((3, I _) :: (2, S _ _ _) :: (46, S _ _ _) :: _) rfl <| nn <| cm_ret <| xrr [0] (ab.1, ab.2.1, ab.2.2)
end Go.Proofs.YtbnimhmoffchdaaGreatDoor
