/- Models of functions, and that the code follows them. Written by deco.py. -/
import Derived.Test.YtbnimhmoffchdaaGreatDoorZRS
namespace Go.Proofs.YtbnimhmoffchdaaGreatDoor
open Go.RowKit
set_option linter.unusedSectionVars false
variable [JF]

/-- recyclingref18.fault -/
def m_recyclingref18_fault (_N : Nat) (p0 : ApiEmptying) (p1 : Int) (p2 : Int) : Option (Int) :=
 (if ((decide (p0.ID < 1)) || (decide (1000000 < p0.ID))) = true then
  some (1)
 else
  (if ((decide (p0.Container < 0)) || (decide (p1 ≤ p0.Container))) = true then
   some (7)
  else
   (if ((decide (p0.Vehicle < 0)) || (decide (p2 ≤ p0.Vehicle))) = true then
    some (7)
   else
    (if ((decide (p0.At < 0)) || (decide (3155759999 < p0.At))) = true then
     some (1)
    else
     (if (((decide (p0.Mass.Lo < 0)) || (decide (p0.Mass.Hi < p0.Mass.Lo))) || (decide (1073741824 < p0.Mass.Hi))) = true then
      some (1)
     else
      some (0))))))
set_option maxHeartbeats 2000000 in
set_option maxRecDepth 20000 in
theorem m_recyclingref18_fault_ok (N : Nat) (w0 : World) (p0 : ApiEmptying) (p1 p2 : Int)   (r : Int) (hr : m_recyclingref18_fault N p0 p1 p2 = some r) :
  Ret Tryz.prog 80 [.agg #[I p0.ID, I p0.Container, I p0.Vehicle, I p0.At, I p0.Mass.Lo, I p0.Mass.Hi, B p0.Void], I p1, I p2] w0 VI H0 r := by
 refine calls_v (n := 60) r hr Tryz.func80 ?_
 unfold m_recyclingref18_fault
 refine sr <| bx 3 [I _, I _, I _, I _, I _, I _, B _] rfl fun b5 => la 1 ((6, I _) :: _) rfl <| nn <| cm_seq <| cm_seq <| cm_cutE [(14, B ((decide (p0.ID < 1)) || (decide (1000000 < p0.ID))))] ?_ ?_
 ·refine qf 7 0 0 rfl <| qc 8 0 rfl rfl rfl <| qd 9 (fun _ _ => op_lss rfl rfl) (fun h6 => ?_) (fun h6 => ?_)
  ·exact qa 5 ((14, B true) :: uz 13 3 ((10, B true) :: _)) rfl <| lb 8 rfl (by rw [dt h6] <;> rfl)
  ·exact qa 1 ((10, B false) :: _) rfl <| qf 11 0 0 rfl <| qc 12 0 rfl rfl rfl <| qa 2 ((14, B _) :: (13, B _) :: _) rfl <| lb 8 rfl (by rw [df h6] <;> rfl)
 refine xm_next <| cB rfl (fun h7 => ?_) (fun h7 => ?_)
 ·exact sr <| la 1 ((6, I _) :: _) rfl <| nn <| cm_ret <| xm_thenR <| xr [] ()
 ·refine sk <| cm_seq <| cm_seq <| cm_cutE [(23, B ((decide (p0.Container < 0)) || (decide (p1 ≤ p0.Container))))] ?_ ?_
  ·refine qf 15 1 1 rfl <| qc 16 0 rfl rfl rfl <| qd 17 (fun _ _ => op_lss rfl rfl) (fun h8 => ?_) (fun h8 => ?_)
   ·exact qa 6 ((23, B true) :: uz 22 4 ((18, B true) :: _)) rfl <| lb 9 rfl (by rw [dt h8] <;> rfl)
   ·exact qa 1 ((18, B false) :: _) rfl <| qf 19 1 1 rfl <| qc 20 0 rfl rfl rfl <| qa 3 ((23, B _) :: (22, B _) :: (21, I _) :: _) rfl <| lb 9 rfl (by rw [df h8] <;> rfl)
  refine xm_next <| cB rfl (fun h9 => ?_) (fun h9 => ?_)
  ·exact sr <| la 1 ((6, I _) :: _) rfl <| nn <| cm_ret <| xm_thenR <| xr [] ()
  ·refine sk <| cm_seq <| cm_seq <| cm_cutE [(32, B ((decide (p0.Vehicle < 0)) || (decide (p2 ≤ p0.Vehicle))))] ?_ ?_
   ·refine qf 24 2 2 rfl <| qc 25 0 rfl rfl rfl <| qd 26 (fun _ _ => op_lss rfl rfl) (fun b => ?_) (fun b => ?_)
    ·exact qa 6 ((32, B true) :: uz 31 4 ((27, B true) :: _)) rfl <| lb 9 rfl (by rw [dt b] <;> rfl)
    ·exact qa 1 ((27, B false) :: _) rfl <| qf 28 2 2 rfl <| qc 29 0 rfl rfl rfl <| qa 3 ((32, B _) :: (31, B _) :: (30, I _) :: _) rfl <| lb 9 rfl (by rw [df b] <;> rfl)
   refine xm_next <| cB rfl (fun f => ?_) (fun f => ?_)
   ·exact sr <| la 1 ((6, I _) :: _) rfl <| nn <| cm_ret <| xm_thenR <| xr [] ()
   ·refine sk <| cm_seq <| cm_seq <| cm_cutE [(40, B ((decide (p0.At < 0)) || (decide (3155759999 < p0.At))))] ?_ ?_
    ·refine qf 33 3 3 rfl <| qc 34 0 rfl rfl rfl <| qd 35 (fun _ _ => op_lss rfl rfl) (fun d => ?_) (fun d => ?_)
     ·exact qa 5 ((40, B true) :: uz 39 3 ((36, B true) :: _)) rfl <| lb 8 rfl (by rw [dt d] <;> rfl)
     ·exact qa 1 ((36, B false) :: _) rfl <| qf 37 3 3 rfl <| qc 38 0 rfl rfl rfl <| qa 2 ((40, B _) :: (39, B _) :: _) rfl <| lb 8 rfl (by rw [df d] <;> rfl)
    refine xm_next <| cB rfl (fun g => ?_) (fun g => ?_)
    ·exact sr <| la 1 ((6, I _) :: _) rfl <| nn <| cm_ret <| xm_thenR <| xr [] ()
    ·refine sk <| cm_seq <| cm_seq <| cm_cutE [(59, B (((decide (p0.Mass.Lo < 0)) || (decide (p0.Mass.Hi < p0.Mass.Lo))) || (decide (1073741824 < p0.Mass.Hi))))] ?_ ?_
     ·refine qf 41 4 4 rfl <| qf 42 0 4 rfl <| qc 43 0 rfl rfl rfl <| qd 44 (fun _ _ => op_lss rfl rfl) (fun a => ?_) (fun a => ?_)
      ·exact qa 15 ((59, B true) :: uz 58 4 ((54, B true) :: (53, B true) :: uz 52 7 ((45, B true) :: _))) rfl <| lb 19 rfl (by rw [dt a] <;> rfl)
      ·refine qa 1 ((45, B false) :: _) rfl <| qf 46 4 4 rfl <| qf 47 0 4 rfl <| qc 48 0 rfl rfl rfl <| qf 49 4 4 rfl <| qf 50 1 5 rfl <| qc 51 0 rfl rfl rfl <| qd 52 (fun _ _ => op_gtr rfl rfl) (fun e => ?_) (fun e => ?_)
       ·exact qa 7 ((59, B true) :: uz 58 4 ((54, B true) :: (53, B true) :: _)) rfl <| lb 19 rfl (by rw [df a, dt e] <;> rfl)
       ·exact qa 2 ((54, B false) :: (53, B false) :: _) rfl <| qf 55 4 4 rfl <| qf 56 1 5 rfl <| qc 57 0 rfl rfl rfl <| qa 2 ((59, B _) :: (58, B _) :: _) rfl <| lb 19 rfl (by rw [df a, df e] <;> rfl)
     refine xm_next <| cB rfl (fun i => ?_) (fun i => ?_)
     ·exact sr <| la 1 ((6, I _) :: _) rfl <| nn <| cm_ret <| xm_thenR <| xr [] ()
     ·exact sk <| sr <| la 1 ((6, I _) :: _) rfl <| nn <| cm_ret <| xr [] ()
/-- recyclingref18.Check -/
def m_recyclingref18_Check (N : Nat) (p0 : (List ApiEmptying)) (p1 : Int) (p2 : Int) : Option (Int) :=
 (if 512 < (List.length p0 : Int) then
  some (8)
 else
  (andThen
   (loopM (fun (d : Int) =>
    (if d < (List.length p0 : Int) then
     ck (0 ≤ d ∧ d < (List.length p0 : Int)) (
      Option.bind (m_recyclingref18_fault N (ix p0 d) p1 p2) fun e => (if e ≠ 0 then
       some (.done (.done (e)))
      else
       ck (I64 (d + 1)) (
        some (.next (d + 1)))))
    else
     some (.done (.next ())))) N 0)
  fun (_s30 : Unit) =>
   (andThen
    (loopM (fun (a : Int) =>
     (if a < (List.length p0 : Int) then
      (andThen
       (loopM (fun (b : Int) =>
        (if b < a then
         ck (0 ≤ a ∧ a < (List.length p0 : Int)) (
          ck (0 ≤ b ∧ b < (List.length p0 : Int)) (
           (if (ix p0 a).ID = (ix p0 b).ID then
            some (.done (.done (.done (.done ((6 : Int))))))
           else
            ck (I64 (b + 1)) (
             some (.next (b + 1))))))
        else
         some (.done (.next ())))) N 0)
      fun (_s322 : Unit) =>
       ck (I64 (a + 1)) (
        some (.next (a + 1))))
     else
      some (.done (.next ())))) N 0)
   fun (_s200 : Unit) =>
    some (0))))
set_option maxHeartbeats 2000000 in
set_option maxRecDepth 20000 in
theorem m_recyclingref18_Check_ok (N : Nat) (w0 : World) (p0 : (List ApiEmptying)) (p1 p2 : Int) (a : Ad) (e f : Nat) (b : RdE w0 7 encApiEmptying a p0) (d : SW a e f (List.length p0)) (r : Int) (hr : m_recyclingref18_Check N p0 p1 p2 = some r) :
  Ret Tryz.prog 31 [S a e f, I p1, I p2] w0 VI H0 r := by
 refine calls_v (n := 52) r hr Tryz.func31 ?_
 unfold m_recyclingref18_Check
 refine sr <| la 1 ((6, I _) :: _) rfl <| nn <| cm_seq <| sr <| la 1 ((11, S _ _ _) :: _) rfl <| vn 12 d rfl <| la 1 ((13, B _) :: _) rfl <| nn <| cc rfl (fun h5 => ?_) (fun h5 => ?_)
 ·exact sr <| la 1 ((6, I _) :: _) rfl <| nn <| cm_ret <| xm_thenR <| xr [] ()
 ·refine sk <| cm_join (σ := Unit) (ξ := Unit) (fun C G => [(0, S a e f)]) (fun C G => []) ?_ ?_
  ·refine sr <| la 1 ((7, I _) :: _) rfl <| nn <| cm_block <| cm_loop (σ := Int) (ξ := Unit) (fun m J => [(0, S a e f), (1, I p1), (2, I p2), (7, I m)]) (fun m J => []) () ?_ ?_ ?_
   ·exact sq
   ·exact sh []
   intro m J
   refine cm_seq <| sr <| la 2 ((15, S _ _ _) :: (14, I _) :: _) rfl <| vn 16 d rfl <| la 1 ((17, B _) :: _) rfl <| nn <| cc rfl (fun V => ?_) (fun V => ?_)
   ·refine sk <| cm_seq <| cm_block <| sr <| la 2 ((21, I _) :: (20, S _ _ _) :: _) rfl <| lm_ck (fun K => ?_)
    refine vi 22 7 b d K rfl rfl <| vr 23 b K rfl <| la 2 ((25, I _) :: (24, I _) :: _) rfl <| lc 26 (fun r1 hr1 w1 c1 => m_recyclingref18_fault_ok N w1 (ix p0 m) p1 p2  r1 hr1) fun Z a0 => la 1 ((8, I _) :: _) rfl <| nn <| sr <| la 2 ((28, B _) :: (27, I _) :: _) rfl <| nn <| cc rfl (fun X => ?_) (fun X => ?_)
    ·exact sr <| la 2 ((6, I _) :: (29, I _) :: _) rfl <| nn <| cm_ret <| xm_inR <| xm_thenR <| xm_lret <| xm_inR <| xm_lret <| xr [] ()
    ·refine cm_skip <| xm_inN <| xm_next <| cm_region <| la 1 ((18, I _) :: _) rfl <| lm_ck (fun Y => ?_)
     exact va 19 Y rfl rfl <| la 1 ((7, I _) :: _) rfl <| lm_nil <| xn () []
   ·exact cm_exit <| xm_thenE <| xm_lexit <| xm_here <| xn () []
  intro C G
  refine cm_join (σ := Unit) (ξ := Unit) (fun o q => []) (fun o q => []) ?_ ?_
  ·refine sr <| la 1 ((9, I _) :: _) rfl <| nn <| cm_block <| cm_loop (σ := Int) (ξ := Unit) (fun g t => [(0, S a e f), (9, I g)]) (fun g t => []) () ?_ ?_ ?_
   ·exact sq
   ·exact sh []
   intro g t
   refine cm_seq <| sr <| la 2 ((31, S _ _ _) :: (30, I _) :: _) rfl <| vn 32 d rfl <| la 1 ((33, B _) :: _) rfl <| nn <| cc rfl (fun L => ?_) (fun L => ?_)
   ·refine sk <| cm_join (σ := Unit) (ξ := Unit) (fun x y => [(0, S a e f), (9, I g)]) (fun x y => []) ?_ ?_
    ·refine cm_block <| sr <| la 1 ((10, I _) :: _) rfl <| nn <| cm_block <| cm_loop (σ := Int) (ξ := Unit) (fun i z => [(0, S a e f), (9, I g), (10, I i)]) (fun i z => []) () ?_ ?_ ?_
     ·exact sq
     ·exact sh []
     intro i z
     refine cm_seq <| sr <| la 3 ((38, B _) :: (37, I _) :: (36, I _) :: _) rfl <| nn <| cc rfl (fun M => ?_) (fun M => ?_)
     ·refine sk <| cm_seq <| cm_block <| cm_seq <| cm_ck (fun j => ?_)
      refine cm_ck (fun l => ?_)
      refine cm_drawn [(51, B (decide ((ix p0 g).ID = (ix p0 i).ID)))] (by kernel_rfl) (by kernel_rfl) ?_ ?_
      ·exact qa 2 ((42, I _) :: (41, S _ _ _) :: _) rfl <| qi 43 7 b d j rfl rfl <| qF 44 rfl <| q_ 45 (fun _ c1 => oL (v := I ((ix p0 g).ID)) ((b.old c1).cell0 j.1 j.2 rfl)) <| qa 2 ((47, I _) :: (46, S _ _ _) :: _) rfl <| qi 48 7 b d l rfl rfl <| qF 49 rfl <| q_ 50 (fun _ c1 => oL (v := I ((ix p0 i).ID)) ((b.old c1).cell0 l.1 l.2 rfl)) <| qa 1 ((51, B _) :: _) rfl <| lq 11
      refine xm_next <| cc rfl (fun O => ?_) (fun O => ?_)
      ·exact sr <| la 1 ((6, I _) :: _) rfl <| nn <| cm_ret <| xm_inR <| xm_thenR <| xm_lret <| xm_inR <| xm_inR <| xm_lret <| xm_lret <| xm_inR <| xm_lret <| xr [] ()
      ·refine cm_skip <| xm_inN <| xm_next <| cm_region <| la 1 ((39, I _) :: _) rfl <| lm_ck (fun Q => ?_)
       exact va 40 Q rfl rfl <| la 1 ((10, I _) :: _) rfl <| lm_nil <| xn () []
     ·exact cm_exit <| xm_thenE <| xm_lexit <| xm_here <| xm_inN <| xn () []
    intro x y
    refine cm_region <| la 1 ((34, I _) :: _) rfl <| lm_ck (fun U => ?_)
    exact va 35 U rfl rfl <| la 1 ((9, I _) :: _) rfl <| lm_nil <| xn () []
   ·exact cm_exit <| xm_thenE <| xm_lexit <| xm_here <| xm_lnext () sub_nil (sh [])
  intro o q
  exact sr <| la 1 ((6, I _) :: _) rfl <| nn <| cm_ret <| xr [] ()
/-- recyclingref04.letter -/
def m_recyclingref04_letter (_N : Nat) (p0 : Int) : Option (Bool) :=
 some ((((decide (65 ≤ p0)) && (decide (p0 ≤ 90))) || ((decide (97 ≤ p0)) && (decide (p0 ≤ 122)))))
set_option maxRecDepth 20000 in
theorem m_recyclingref04_letter_ok (N : Nat) (w0 : World) (p0 : Int)   (r : Bool) (hr : m_recyclingref04_letter N p0 = some r) :
  Ret Tryz.prog 128 [.int .u8 p0] w0 VB H0 r := by
 refine calls_v (n := 17) r hr Tryz.func128 ?_
 unfold m_recyclingref04_letter
 refine sr <| la 1 ((2, B false) :: _) rfl <| nn <| cm_seq <| cm_cutE [(2, B (((decide (65 ≤ p0)) && (decide (p0 ≤ 90))) || ((decide (97 ≤ p0)) && (decide (p0 ≤ 122)))))] ?_ ?_
 ·refine qa 1 ((3, .int .u8 _) :: _) rfl <| qd 4 (fun _ _ => op_geqK rfl rfl) (fun h5 => ?_) (fun h5 => ?_)
  ·refine qa 2 ((6, .int .u8 _) :: (5, B true) :: _) rfl <| qd 7 (fun _ _ => op_leqK rfl rfl) (fun h6 => ?_) (fun h6 => ?_)
   ·exact qa 10 ((2, B true) :: (16, B true) :: uz 15 6 ((9, B true) :: (8, B true) :: _)) rfl <| lb 15 rfl (by rw [dt h5, dt h6] <;> rfl)
   ·refine qa 3 ((10, .int .u8 _) :: (9, B false) :: (8, B false) :: _) rfl <| qd 11 (fun _ _ => op_geqK rfl rfl) (fun h7 => ?_) (fun h7 => ?_)
    ·exact qa 2 ((13, .int .u8 _) :: (12, B true) :: _) rfl <| q_ 14 (fun _ _ => op_leqK rfl rfl) <| qa 3 ((2, B _) :: (16, B _) :: (15, B _) :: _) rfl <| lb 15 rfl (by rw [dt h5, df h6, dt h7] <;> rfl)
    ·exact qa 6 ((2, B false) :: (16, B false) :: (15, B false) :: (14, undef) :: (13, undef) :: (12, B false) :: _) rfl <| lb 15 rfl (by rw [dt h5, df h6, df h7] <;> rfl)
  ·refine qa 6 ((10, .int .u8 _) :: (9, B false) :: (8, B false) :: (7, undef) :: (6, undef) :: (5, B false) :: _) rfl <| qd 11 (fun _ _ => op_geqK rfl rfl) (fun h8 => ?_) (fun h8 => ?_)
   ·exact qa 2 ((13, .int .u8 _) :: (12, B true) :: _) rfl <| q_ 14 (fun _ _ => op_leqK rfl rfl) <| qa 3 ((2, B _) :: (16, B _) :: (15, B _) :: _) rfl <| lb 15 rfl (by rw [df h5, dt h8] <;> rfl)
   ·exact qa 6 ((2, B false) :: (16, B false) :: (15, B false) :: (14, undef) :: (13, undef) :: (12, B false) :: _) rfl <| lb 15 rfl (by rw [df h5, df h8] <;> rfl)
 exact xm_next <| cm_ret <| xr [] ()
/-- recyclingref04.Valid -/
def m_recyclingref04_Valid (N : Nat) (p0 : ByteArray) : Option (Bool) :=
 ck ((!((decide ((ByteArray.size p0 : Int) < 1)) || (decide (32 < (ByteArray.size p0 : Int))))) = true → (0 : Int) ≤ 0 ∧ 0 < (ByteArray.size p0 : Int)) (
  callIf ((!((decide ((ByteArray.size p0 : Int) < 1)) || (decide (32 < (ByteArray.size p0 : Int))))) = true) (m_recyclingref04_letter N (bget p0 (0 : Int))) fun r6 => (if (((decide ((ByteArray.size p0 : Int) < 1)) || (decide (32 < (ByteArray.size p0 : Int)))) || (!r6)) = true then
   some (false)
  else
   (andThen
    (loopM (fun (a : Int) =>
     (if a < (ByteArray.size p0 : Int) then
      ck (0 ≤ a ∧ a < (ByteArray.size p0 : Int)) (
       Option.bind (m_recyclingref04_letter N (bget p0 a)) fun b => (if (((((!b) && ((decide ((bget p0 a) < 48)) || (decide (57 < (bget p0 a))))) && (decide ((bget p0 a) ≠ 45))) && (decide ((bget p0 a) ≠ 95))) && (decide ((bget p0 a) ≠ 46))) = true then
        some (.done (.done (false)))
       else
        ck (I64 (a + 1)) (
         some (.next (a + 1)))))
     else
      some (.done (.next ())))) N 0)
   fun (_s56 : Unit) =>
    some (true))))
set_option maxHeartbeats 2000000 in
set_option maxRecDepth 20000 in
theorem m_recyclingref04_Valid_ok (N : Nat) (w0 : World) (p0 : ByteArray)   (r : Bool) (hr : m_recyclingref04_Valid N p0 = some r) :
  Ret Tryz.prog 77 [.string p0] w0 VB H0 r := by
 refine calls_v (n := 51) r hr Tryz.func77 ?_
 unfold m_recyclingref04_Valid
 refine sr <| la 1 ((2, B false) :: _) rfl <| nn <| cm_seq <| cm_seq <| cm_ck (fun h5 => ?_)
 refine cm_callIf fun r6 h7 => cm_cutE [(18, B (((decide ((ByteArray.size p0 : Int) < 1)) || (decide (32 < (ByteArray.size p0 : Int)))) || (!r6)))] ?_ ?_
 ·refine qa 1 ((5, .string _) :: _) rfl <| q_ 6 (fun _ _ => op_lenS rfl (by kernel_rfl)) <| qd 7 (fun _ _ => op_lss rfl rfl) (fun h8 => ?_) (fun h8 => ?_)
  ·exact qa 11 ((18, B true) :: uz 17 4 ((13, B true) :: (12, B true) :: uz 11 3 ((8, B true) :: _))) rfl <| lb 14 rfl (by rw [dt h8] <;> rfl)
  ·refine qa 2 ((9, .string _) :: (8, B false) :: _) rfl <| q_ 10 (fun _ _ => op_lenS rfl (by kernel_rfl)) <| qd 11 (fun _ _ => op_gtr rfl rfl) (fun h9 => ?_) (fun h9 => ?_)
   ·exact qa 7 ((18, B true) :: uz 17 4 ((13, B true) :: (12, B true) :: _)) rfl <| lb 14 rfl (by rw [df h8, dt h9] <;> rfl)
   ·exact qa 3 ((14, .string _) :: (13, B false) :: (12, B false) :: _) rfl <| q_ 15 (fun _ _ => op_indexS rfl rfl (by kernel_rfl) (h5 (by rw [df h8, df h9] <;> rfl)).1 (h5 (by rw [df h8, df h9] <;> rfl)).2) <| qk 16 (fun w1 c1 => m_recyclingref04_letter_ok N w1 (bget p0 (0 : Int))  r6 (h7 (by rw [df h8, df h9] <;> rfl))) <| qa 2 ((18, B _) :: (17, B _) :: _) rfl <| lb 14 rfl (by rw [df h8, df h9] <;> rfl)
 refine xm_next <| cB rfl (fun y => ?_) (fun y => ?_)
 ·exact sr <| la 1 ((2, B false) :: _) rfl <| nn <| cm_ret <| xm_thenR <| xr [] ()
 ·refine sk <| cm_join (σ := Unit) (ξ := Unit) (fun l m => []) (fun l m => []) ?_ ?_
  ·refine sr <| la 1 ((3, I _) :: _) rfl <| nn <| cm_block <| cm_loop (σ := Int) (ξ := Unit) (fun a o => [(0, .string p0), (3, I a)]) (fun a o => []) () ?_ ?_ ?_
   ·exact sq
   ·exact sh []
   intro a o
   refine cm_seq <| sr <| la 2 ((20, .string _) :: (19, I _) :: _) rfl <| v_ 21 (fun _ _ => op_lenS rfl (by kernel_rfl)) <| la 1 ((22, B _) :: _) rfl <| nn <| cc rfl (fun z => ?_) (fun z => ?_)
   ·refine sk <| cm_seq <| cm_block <| sr <| la 2 ((26, I _) :: (25, .string _) :: _) rfl <| lm_ck (fun q => ?_)
    refine v_ 27 (fun _ _ => op_indexS rfl rfl (by kernel_rfl) q.1 q.2) <| la 1 ((4, .int .u8 _) :: _) rfl <| nn <| cm_seq <| cm_bind fun t C => cm_cutE [(50, B (((((!t) && ((decide ((bget p0 a) < 48)) || (decide (57 < (bget p0 a))))) && (decide ((bget p0 a) ≠ 45))) && (decide ((bget p0 a) ≠ 95))) && (decide ((bget p0 a) ≠ 46))))] ?_ ?_
    ·refine qa 1 ((28, .int .u8 _) :: _) rfl <| qkb 29 (fun w1 c1 => m_recyclingref04_letter_ok N w1 (bget p0 a)  t C) (fun b => ?_) (fun b => ?_)
     ·exact qa 21 ((50, B false) :: (49, undef) :: (48, undef) :: (47, B false) :: (46, B false) :: (45, undef) :: (44, undef) :: (43, B false) :: (42, B false) :: (41, undef) :: (40, undef) :: (39, B false) :: (38, B false) :: uz 37 6 ((31, B false) :: (30, B false) :: _)) rfl <| lb 23 rfl (by rw [b] <;> rfl)
     ·refine qa 3 ((32, .int .u8 _) :: (31, B true) :: (30, B true) :: _) rfl <| qd 33 (fun _ _ => op_lssK rfl rfl) (fun d => ?_) (fun d => ?_)
      ·refine qa 7 ((40, .int .u8 _) :: (39, B true) :: (38, B true) :: (37, B true) :: (36, undef) :: (35, undef) :: (34, B true) :: _) rfl <| qd 41 (fun _ _ => op_neqK rfl rfl) (fun g => ?_) (fun g => ?_)
       ·refine qa 3 ((44, .int .u8 _) :: (43, B true) :: (42, B true) :: _) rfl <| qd 45 (fun _ _ => op_neqK rfl rfl) (fun j => ?_) (fun j => ?_)
        ·exact qa 3 ((48, .int .u8 _) :: (47, B true) :: (46, B true) :: _) rfl <| q_ 49 (fun _ _ => op_neqK rfl rfl) <| qa 1 ((50, B _) :: _) rfl <| lb 23 rfl (by rw [b, dt d, dt g, dt j] <;> rfl)
        ·exact qa 5 ((50, B false) :: (49, undef) :: (48, undef) :: (47, B false) :: (46, B false) :: _) rfl <| lb 23 rfl (by rw [b, dt d, dt g, df j] <;> rfl)
       ·exact qa 9 ((50, B false) :: (49, undef) :: (48, undef) :: (47, B false) :: (46, B false) :: (45, undef) :: (44, undef) :: (43, B false) :: (42, B false) :: _) rfl <| lb 23 rfl (by rw [b, dt d, df g] <;> rfl)
      ·refine qa 2 ((35, .int .u8 _) :: (34, B false) :: _) rfl <| qd 36 (fun _ _ => op_gtrK rfl rfl) (fun e => ?_) (fun e => ?_)
       ·refine qa 4 ((40, .int .u8 _) :: (39, B true) :: (38, B true) :: (37, B true) :: _) rfl <| qd 41 (fun _ _ => op_neqK rfl rfl) (fun i => ?_) (fun i => ?_)
        ·refine qa 3 ((44, .int .u8 _) :: (43, B true) :: (42, B true) :: _) rfl <| qd 45 (fun _ _ => op_neqK rfl rfl) (fun f => ?_) (fun f => ?_)
         ·exact qa 3 ((48, .int .u8 _) :: (47, B true) :: (46, B true) :: _) rfl <| q_ 49 (fun _ _ => op_neqK rfl rfl) <| qa 1 ((50, B _) :: _) rfl <| lb 23 rfl (by rw [b, df d, dt e, dt i, dt f] <;> rfl)
         ·exact qa 5 ((50, B false) :: (49, undef) :: (48, undef) :: (47, B false) :: (46, B false) :: _) rfl <| lb 23 rfl (by rw [b, df d, dt e, dt i, df f] <;> rfl)
        ·exact qa 9 ((50, B false) :: (49, undef) :: (48, undef) :: (47, B false) :: (46, B false) :: (45, undef) :: (44, undef) :: (43, B false) :: (42, B false) :: _) rfl <| lb 23 rfl (by rw [b, df d, dt e, df i] <;> rfl)
       ·exact qa 14 ((50, B false) :: (49, undef) :: (48, undef) :: (47, B false) :: (46, B false) :: (45, undef) :: (44, undef) :: (43, B false) :: (42, B false) :: (41, undef) :: (40, undef) :: (39, B false) :: (38, B false) :: (37, B false) :: _) rfl <| lb 23 rfl (by rw [b, df d, df e] <;> rfl)
    refine xm_next <| cB rfl (fun v => ?_) (fun v => ?_)
    ·exact sr <| la 1 ((2, B false) :: _) rfl <| nn <| cm_ret <| xm_inR <| xm_thenR <| xm_lret <| xm_inR <| xm_lret <| xr [] ()
    ·refine cm_skip <| xm_inN <| xm_next <| cm_region <| la 1 ((23, I _) :: _) rfl <| lm_ck (fun x => ?_)
     exact va 24 x rfl rfl <| la 1 ((3, I _) :: _) rfl <| lm_nil <| xn () []
   ·exact cm_exit <| xm_thenE <| xm_lexit <| xm_here <| xm_lnext () sub_nil (sh [])
  intro l m
  exact sr <| la 1 ((2, B true) :: _) rfl <| nn <| cm_ret <| xr [] ()
/-- recyclingref13.Check -/
def m_recyclingref13_Check (N : Nat) (p0 : (List ApiContainer)) (p1 : Int) (p2 : Int) : Option (Int) :=
 (if 256 < (List.length p0 : Int) then
  some (8)
 else
  (andThen
   (loopM (fun (a : Int) =>
    (if a < (List.length p0 : Int) then
     ck (0 ≤ a ∧ a < (List.length p0 : Int)) (
      Option.bind (m_recyclingref04_Valid N ((ix p0 a).ID)) fun e => (if (!e) = true then
       some (.done (.done ((5 : Int))))
      else
       (if ((decide ((ix p0 a).Kind < 0)) || (decide (p1 ≤ (ix p0 a).Kind))) = true then
        some (.done (.done ((21 : Int))))
       else
        (if ((((decide ((ix p0 a).Litres < 1)) || (decide (40000 < (ix p0 a).Litres))) || (decide ((ix p0 a).Grams < 1))) || (decide (1073741824 < (ix p0 a).Grams))) = true then
         some (.done (.done ((1 : Int))))
        else
         (if ((decide ((ix p0 a).Node < 0)) || (decide (p2 ≤ (ix p0 a).Node))) = true then
          some (.done (.done ((7 : Int))))
         else
          ck (I64 (a + 1)) (
           some (.next (a + 1))))))))
    else
     some (.done (.next ())))) N 0)
  fun (_s57 : Unit) =>
   (andThen
    (loopM (fun (b : Int) =>
     (if b < (List.length p0 : Int) then
      (andThen
       (loopM (fun (d : Int) =>
        (if d < b then
         ck (0 ≤ b ∧ b < (List.length p0 : Int)) (
          ck (0 ≤ d ∧ d < (List.length p0 : Int)) (
           (if ((ix p0 b).ID) = ((ix p0 d).ID) then
            some (.done (.done (.done (.done ((6 : Int))))))
           else
            ck (I64 (d + 1)) (
             some (.next (d + 1))))))
        else
         some (.done (.next ())))) N 0)
      fun (_s376 : Unit) =>
       ck (I64 (b + 1)) (
        some (.next (b + 1))))
     else
      some (.done (.next ())))) N 0)
   fun (_s254 : Unit) =>
    some (0))))
set_option maxHeartbeats 2000000 in
set_option maxRecDepth 20000 in
theorem m_recyclingref13_Check_ok (N : Nat) (w0 : World) (p0 : (List ApiContainer)) (p1 p2 : Int) (a : Ad) (d e : Nat) (g : RdE w0 5 encApiContainer a p0) (i : SW a d e (List.length p0)) (r : Int) (hr : m_recyclingref13_Check N p0 p1 p2 = some r) :
  Ret Tryz.prog 29 [S a d e, I p1, I p2] w0 VI H0 r := by
 refine calls_v (n := 83) r hr Tryz.func29 ?_
 unfold m_recyclingref13_Check
 refine sr <| la 1 ((6, I _) :: _) rfl <| nn <| cm_seq <| sr <| la 1 ((11, S _ _ _) :: _) rfl <| vn 12 i rfl <| la 1 ((13, B _) :: _) rfl <| nn <| cc rfl (fun h5 => ?_) (fun h5 => ?_)
 ·exact sr <| la 1 ((6, I _) :: _) rfl <| nn <| cm_ret <| xm_thenR <| xr [] ()
 ·refine sk <| cm_join (σ := Unit) (ξ := Unit) (fun M O => [(0, S a d e)]) (fun M O => []) ?_ ?_
  ·refine sr <| la 1 ((14, S _ _ _) :: _) rfl <| vn 15 i rfl <| la 1 ((16, I _) :: _) rfl <| nn <| cm_block <| cm_loop (σ := Int) (ξ := Unit) (fun b Q => [(0, S a d e), (1, I p1), (2, I p2), (14, S a d e), (15, I (List.length p0 : Int)), (16, I b)]) (fun b Q => []) () ?_ ?_ ?_
   ·exact sq
   ·exact sh []
   intro b Q
   refine sr <| la 1 ((17, B _) :: _) rfl <| nn <| cm_seq <| cc rfl (fun a6 => ?_) (fun a6 => ?_)
   ·refine sk <| cm_seq <| cm_block <| sr <| lm_ck (fun U => ?_)
    refine vi 18 5 g i U rfl rfl <| vr 19 g U rfl <| lm_alloc 8 [.string (⟨#[]⟩ : ByteArray), I 0, I 0, I 0, I 0] (v := .agg #[.string (⟨#[]⟩ : ByteArray), I 0, I 0, I 0, I 0]) (by kernel_rfl) (by kernel_rfl) rfl fun a7 => sA 0 [.string _, I _, I _, I _, I _] [_, _, _, _, _] (H' := [blkE _ _ [_, _, _, _, _]]) rfl rfl rfl rfl rfl rfl <| nn <| cm_seq <| sr <| vf 20 0 0 rfl <| vc 21 0 rfl rfl rfl <| lc 22 (fun r1 hr1 w1 c1 => m_recyclingref04_Valid_ok N w1 ((ix p0 b).ID)  r1 hr1) fun a8 a9 => la 1 ((23, B _) :: _) rfl <| nn <| cB rfl (fun V => ?_) (fun V => ?_)
    ·exact sr <| la 1 ((6, I _) :: _) rfl <| nn <| cm_ret <| xm_thenR <| xm_inR <| xm_thenR <| xm_lret <| xm_inR <| xm_lret <| xr [] ()
    ·refine sk <| cm_seq <| cm_seq <| cm_cutE [(32, B ((decide ((ix p0 b).Kind < 0)) || (decide (p1 ≤ (ix p0 b).Kind))))] ?_ ?_
     ·refine qf 24 1 1 rfl <| qc 25 0 rfl rfl rfl <| qd 26 (fun _ _ => op_lss rfl rfl) (fun o => ?_) (fun o => ?_)
      ·exact qa 6 ((32, B true) :: uz 31 4 ((27, B true) :: _)) rfl <| lb 9 rfl (by rw [dt o] <;> rfl)
      ·exact qa 1 ((27, B false) :: _) rfl <| qf 28 1 1 rfl <| qc 29 0 rfl rfl rfl <| qa 3 ((32, B _) :: (31, B _) :: (30, I _) :: _) rfl <| lb 9 rfl (by rw [df o] <;> rfl)
     refine xm_next <| cB rfl (fun X => ?_) (fun X => ?_)
     ·exact sr <| la 1 ((6, I _) :: _) rfl <| nn <| cm_ret <| xm_thenR <| xm_inR <| xm_thenR <| xm_lret <| xm_inR <| xm_lret <| xr [] ()
     ·refine sk <| cm_seq <| cm_seq <| cm_cutE [(50, B ((((decide ((ix p0 b).Litres < 1)) || (decide (40000 < (ix p0 b).Litres))) || (decide ((ix p0 b).Grams < 1))) || (decide (1073741824 < (ix p0 b).Grams))))] ?_ ?_
      ·refine qf 33 2 2 rfl <| qc 34 0 rfl rfl rfl <| qd 35 (fun _ _ => op_lss rfl rfl) (fun j => ?_) (fun j => ?_)
       ·exact qa 15 ((50, B true) :: uz 49 3 ((46, B true) :: (45, B true) :: uz 44 3 ((41, B true) :: (40, B true) :: uz 39 3 ((36, B true) :: _)))) rfl <| lb 18 rfl (by rw [dt j] <;> rfl)
       ·refine qa 1 ((36, B false) :: _) rfl <| qf 37 2 2 rfl <| qc 38 0 rfl rfl rfl <| qd 39 (fun _ _ => op_gtr rfl rfl) (fun m => ?_) (fun m => ?_)
        ·exact qa 11 ((50, B true) :: uz 49 3 ((46, B true) :: (45, B true) :: uz 44 3 ((41, B true) :: (40, B true) :: _))) rfl <| lb 18 rfl (by rw [df j, dt m] <;> rfl)
        ·refine qa 2 ((41, B false) :: (40, B false) :: _) rfl <| qf 42 3 3 rfl <| qc 43 0 rfl rfl rfl <| qd 44 (fun _ _ => op_lss rfl rfl) (fun q => ?_) (fun q => ?_)
         ·exact qa 6 ((50, B true) :: uz 49 3 ((46, B true) :: (45, B true) :: _)) rfl <| lb 18 rfl (by rw [df j, df m, dt q] <;> rfl)
         ·exact qa 2 ((46, B false) :: (45, B false) :: _) rfl <| qf 47 3 3 rfl <| qc 48 0 rfl rfl rfl <| qa 2 ((50, B _) :: (49, B _) :: _) rfl <| lb 18 rfl (by rw [df j, df m, df q] <;> rfl)
      refine xm_next <| cB rfl (fun Y => ?_) (fun Y => ?_)
      ·exact sr <| la 1 ((6, I _) :: _) rfl <| nn <| cm_ret <| xm_thenR <| xm_inR <| xm_thenR <| xm_lret <| xm_inR <| xm_lret <| xr [] ()
      ·refine sk <| cm_seq <| cm_cutE [(59, B ((decide ((ix p0 b).Node < 0)) || (decide (p2 ≤ (ix p0 b).Node))))] ?_ ?_
       ·refine qf 51 4 4 rfl <| qc 52 0 rfl rfl rfl <| qd 53 (fun _ _ => op_lss rfl rfl) (fun t => ?_) (fun t => ?_)
        ·exact qa 6 ((59, B true) :: uz 58 4 ((54, B true) :: _)) rfl <| lb 9 rfl (by rw [dt t] <;> rfl)
        ·exact qa 1 ((54, B false) :: _) rfl <| qf 55 4 4 rfl <| qc 56 0 rfl rfl rfl <| qa 3 ((59, B _) :: (58, B _) :: (57, I _) :: _) rfl <| lb 9 rfl (by rw [df t] <;> rfl)
       refine xm_next <| cB rfl (fun Z => ?_) (fun Z => ?_)
       ·exact sr <| la 1 ((6, I _) :: _) rfl <| nn <| cm_ret <| xm_inR <| xm_thenR <| xm_lret <| xm_inR <| xm_lret <| xr [] ()
       ·refine cm_skip <| xm_inN <| xm_next <| cm_region <| lm_ck (fun a0 => ?_)
        exact va 60 a0 rfl rfl <| la 1 ((16, I _) :: _) rfl <| lm_nil <| xn () []
   ·exact cm_exit <| xm_thenE <| xm_lexit <| xm_here <| xn () []
  intro M O
  refine cm_join (σ := Unit) (ξ := Unit) (fun z C => []) (fun z C => []) ?_ ?_
  ·refine sr <| la 1 ((61, S _ _ _) :: _) rfl <| vn 62 i rfl <| la 1 ((63, I _) :: _) rfl <| nn <| cm_block <| cm_loop (σ := Int) (ξ := Unit) (fun f G => [(0, S a d e), (62, I (List.length p0 : Int)), (63, I f)]) (fun f G => []) () ?_ ?_ ?_
   ·exact sq
   ·exact sh []
   intro f G
   refine sr <| la 1 ((64, B _) :: _) rfl <| nn <| cm_seq <| cc rfl (fun a1 => ?_) (fun a1 => ?_)
   ·refine sk <| cm_join (σ := Unit) (ξ := Unit) (fun J K => [(0, S a d e), (62, I (List.length p0 : Int)), (63, I f)]) (fun J K => []) ?_ ?_
    ·refine cm_block <| sr <| la 2 ((9, I _) :: (65, I _) :: _) rfl <| nn <| sr <| la 1 ((10, I _) :: _) rfl <| nn <| cm_block <| cm_loop (σ := Int) (ξ := Unit) (fun l L => [(0, S a d e), (9, I f), (10, I l), (62, I (List.length p0 : Int)), (63, I f)]) (fun l L => []) () ?_ ?_ ?_
     ·exact sq
     ·exact sh []
     intro l L
     refine cm_seq <| sr <| la 3 ((68, B _) :: (67, I _) :: (66, I _) :: _) rfl <| nn <| cc rfl (fun a2 => ?_) (fun a2 => ?_)
     ·refine sk <| cm_seq <| cm_block <| cm_seq <| cm_ck (fun x => ?_)
      refine cm_ck (fun y => ?_)
      refine cm_drawn [(81, B (decide (((ix p0 f).ID) = ((ix p0 l).ID))))] (by kernel_rfl) (by kernel_rfl) ?_ ?_
      ·exact qa 2 ((72, I _) :: (71, S _ _ _) :: _) rfl <| qi 73 5 g i x rfl rfl <| qF 74 rfl <| q_ 75 (fun _ c1 => oL (v := .string ((ix p0 f).ID)) ((g.old c1).cell0 x.1 x.2 rfl)) <| qa 2 ((77, I _) :: (76, S _ _ _) :: _) rfl <| qi 78 5 g i y rfl rfl <| qF 79 rfl <| q_ 80 (fun _ c1 => oL (v := .string ((ix p0 l).ID)) ((g.old c1).cell0 y.1 y.2 rfl)) <| q_ 81 (fun _ _ => op_eqlS rfl rfl) <| lq 11
      refine xm_next <| cc rfl (fun a3 => ?_) (fun a3 => ?_)
      ·exact sr <| la 1 ((6, I _) :: _) rfl <| nn <| cm_ret <| xm_inR <| xm_thenR <| xm_lret <| xm_inR <| xm_inR <| xm_lret <| xm_lret <| xm_inR <| xm_lret <| xr [] ()
      ·refine cm_skip <| xm_inN <| xm_next <| cm_region <| la 1 ((69, I _) :: _) rfl <| lm_ck (fun a4 => ?_)
       exact va 70 a4 rfl rfl <| la 1 ((10, I _) :: _) rfl <| lm_nil <| xn () []
     ·exact cm_exit <| xm_thenE <| xm_lexit <| xm_here <| xm_inN <| xn () []
    intro J K
    refine cm_region <| lm_ck (fun a5 => ?_)
    exact va 82 a5 rfl rfl <| la 1 ((63, I _) :: _) rfl <| lm_nil <| xn () []
   ·exact cm_exit <| xm_thenE <| xm_lexit <| xm_here <| xm_lnext () sub_nil (sh [])
  intro z C
  exact sr <| la 1 ((6, I _) :: _) rfl <| nn <| cm_ret <| xr [] ()
/-- recyclingref14.Window -/
def m_recyclingref14_Window (_N : Nat) (p0 : ApiWindow) : Option (Bool) :=
 some ((((decide (0 ≤ p0.From)) && (decide (p0.From ≤ p0.To))) && (decide (p0.To ≤ 3155760000))))
set_option maxRecDepth 20000 in
theorem m_recyclingref14_Window_ok (N : Nat) (w0 : World) (p0 : ApiWindow)   (r : Bool) (hr : m_recyclingref14_Window N p0 = some r) :
  Ret Tryz.prog 78 [.agg #[I p0.From, I p0.To]] w0 VB H0 r := by
 refine calls_v (n := 18) r hr Tryz.func78 ?_
 unfold m_recyclingref14_Window
 refine sr <| bx 1 [I _, I _] rfl fun b5 => la 1 ((2, B false) :: _) rfl <| nn <| cm_seq <| cm_cutE [(2, B (((decide (0 ≤ p0.From)) && (decide (p0.From ≤ p0.To))) && (decide (p0.To ≤ 3155760000))))] ?_ ?_
 ·refine qf 3 0 0 rfl <| qc 4 0 rfl rfl rfl <| qd 5 (fun _ _ => op_geq rfl rfl) (fun h6 => ?_) (fun h6 => ?_)
  ·refine qa 1 ((6, B true) :: _) rfl <| qf 7 0 0 rfl <| qc 8 0 rfl rfl rfl <| qf 9 1 1 rfl <| qc 10 0 rfl rfl rfl <| qd 11 (fun _ _ => op_leq rfl rfl) (fun h7 => ?_) (fun h7 => ?_)
   ·exact qa 2 ((13, B true) :: (12, B true) :: _) rfl <| qf 14 1 1 rfl <| qc 15 0 rfl rfl rfl <| qa 3 ((2, B _) :: (17, B _) :: (16, B _) :: _) rfl <| lb 16 rfl (by rw [dt h6, dt h7] <;> rfl)
   ·exact qa 7 ((2, B false) :: (17, B false) :: uz 16 3 ((13, B false) :: (12, B false) :: _)) rfl <| lb 16 rfl (by rw [dt h6, df h7] <;> rfl)
  ·exact qa 13 ((2, B false) :: (17, B false) :: uz 16 3 ((13, B false) :: (12, B false) :: uz 11 5 ((6, B false) :: _))) rfl <| lb 16 rfl (by rw [df h6] <;> rfl)
 exact xm_next <| cm_ret <| xr [] ()
/-- recyclingref14.common -/
def m_recyclingref14_common (_N : Nat) (p0 : ApiWindow) (p1 : ApiWindow) : Option (ApiWindow × Bool) :=
 (andThen
  (if p0.From < p1.From then
   some (.next p1.From)
  else
   some (.next p0.From))
 fun (s9 : Int) =>
  (andThen
   (if p1.To < p0.To then
    some (.next p1.To)
   else
    some (.next p0.To))
  fun (a : Int) =>
   some (((ApiWindow.mk s9 a), (decide (s9 < a))))))
set_option maxRecDepth 20000 in
theorem m_recyclingref14_common_ok (N : Nat) (w0 : World) (p0 : ApiWindow) (p1 : ApiWindow)   (r : ApiWindow × Bool) (hr : m_recyclingref14_common N p0 p1 = some r) :
  Ret Tryz.prog 79 [.agg #[I p0.From, I p0.To], .agg #[I p1.From, I p1.To]] w0 (fun (r : ApiWindow × Bool) (_u : Unit) => .tuple #[.agg #[I r.1.From, I r.1.To], B r.2]) H0 r := by
 refine calls_v (n := 28) r hr Tryz.func79 ?_
 unfold m_recyclingref14_common
 refine sr <| bx 2 [I _, I _] rfl fun b5 => bx 3 [I _, I _] rfl fun b6 => al 4 [I 0, I 0] (v := .agg #[I 0, I 0]) rfl fun b7 => la 1 ((5, B false) :: _) rfl <| nn <| cm_join (σ := Int) (ξ := Unit) (fun s9 e => [(2, .pointer (some ⟨b5, 0, none⟩)), (3, .pointer (some ⟨b6, 0, none⟩)), (4, .pointer (some ⟨b7, 0, none⟩))]) (fun s9 e => [blkE b5 49 [I s9, I p0.To], blkE b6 49 [I p1.From, I p1.To], blkE b7 49 [I 0, I 0]]) ?_ ?_
 ·refine sr <| vf 6 0 0 rfl <| vc 7 1 rfl rfl rfl <| vf 8 0 0 rfl <| vc 9 2 rfl rfl rfl <| la 1 ((10, B _) :: _) rfl <| nn <| cc rfl (fun i => ?_) (fun i => ?_)
  ·exact cm_region <| vf 11 0 0 rfl <| vc 12 1 rfl rfl rfl <| vf 13 0 0 rfl <| lm_store1 2 (v := I _) (H' := [_, _, blkE _ _ [_, _]]) (by kernel_rfl) rfl rfl (by kernel_rfl) rfl rfl (by kernel_rfl) rfl <| lm_nil <| xn () [2, 1, 0]
  ·exact cm_skip <| xn () [2, 1, 0]
 intro s9 e
 refine cm_join (σ := Int) (ξ := Unit) (fun b f => [(2, .pointer (some ⟨b5, 0, none⟩)), (4, .pointer (some ⟨b7, 0, none⟩))]) (fun b f => [blkE b5 49 [I s9, I b], blkE b7 49 [I 0, I 0]]) ?_ ?_
 ·refine sr <| vf 14 1 1 rfl <| vc 15 1 rfl rfl rfl <| vf 16 1 1 rfl <| vc 17 0 rfl rfl rfl <| la 1 ((18, B _) :: _) rfl <| nn <| cc rfl (fun j => ?_) (fun j => ?_)
  ·exact cm_region <| vf 19 1 1 rfl <| vc 20 1 rfl rfl rfl <| vf 21 1 1 rfl <| lm_store1 0 (v := I _) (H' := [blkE _ _ [_, _], _, _]) (by kernel_rfl) rfl rfl (by kernel_rfl) rfl rfl (by kernel_rfl) rfl <| lm_nil <| xn () [0, 2]
  ·exact cm_skip <| xn () [0, 2]
 intro b f
 refine cm_seq <| cm_held (ξ := Unit) (fun g => [(4, .pointer (some ⟨b7, 0, none⟩)), (5, B (decide (s9 < b)))]) (fun g => [blkE b7 49 [I s9, I b]]) [blkE b5 49 [I s9, I b]] 8 (by kernel_rfl) (by rfl) (hsub [0] (by kernel_rfl) (by rfl)) ?_ ?_
 ·intro l a
  refine wt 0 22 rfl (fun w2 c2 => (op_loadR [I _, I _] rfl (by kernel_rfl) (c2.cells 0 rfl rfl))) (hs [0] a) <| wt 1 23 rfl (fun _ _ => oF 0 0 rfl) (hs [0] a) <| wt 2 24 rfl (fun w2 c2 => oL (c2.cell 0 (u := I _) rfl rfl)) (hs [0] a) <| wt 3 25 rfl (fun _ _ => oF 1 1 rfl) (hs [0] a) <| wt 4 26 rfl (fun w2 c2 => oL (c2.cell 0 (u := I _) rfl rfl)) (hs [0] a) <| wt 5 27 rfl (fun w2 c2 => (op_lss rfl rfl)) (hs [0] a) <| wh_ready [6] (by kernel_rfl) rfl ⟨?_, trivial⟩
  refine ws_storeA 1 [I _, I _] [_, _] rfl (by kernel_rfl) rfl rfl (by kernel_rfl) rfl rfl (by kernel_rfl) rfl (H' := [_, blkE _ _ [_, _]]) rfl a fun m d => ⟨(hs [0] d), ?_⟩
  exact wt 7 5 rfl (fun w2 c2 => (op_assign (v := B _) rfl)) (hs [0] d) <| wh_done () (by kernel_rfl) sq (hs [1] d)
 intro g
 exact xm_next <| cm_ret <| xm_retCT rfl (by kernel_rfl) (show _ = Value.pointer (some ⟨_, 0, none⟩) from rfl) (by kernel_rfl) (fun w1 c1 => c1.cells 0 (ds := [I _, I _]) rfl rfl) (by kernel_rfl) (show _ = B _ from rfl) fun w1 c1 => ⟨(), rfl, hs [] c1⟩
/-- recyclingref14.Check -/
def m_recyclingref14_Check (N : Nat) (p0 : (List ApiHousehold)) (p1 : Int) (p2 : (List ApiAssign)) : Option (Int) :=
 (if ((decide (p1 < 0)) || (decide (256 < p1))) = true then
  some (1)
 else
  (if 256 < (List.length p0 : Int) then
   some (8)
  else
   (andThen
    (loopM (fun (e : Int) =>
     (if e < (List.length p0 : Int) then
      ck (0 ≤ e ∧ e < (List.length p0 : Int)) (
       Option.bind (m_recyclingref04_Valid N ((ix p0 e).ID)) fun l => (if (!l) = true then
        some (.done (.done ((5 : Int))))
       else
        ck (0 ≤ e ∧ e < (List.length p0 : Int)) (
         ck ((!(decide ((ix p0 e).Persons < 1))) = true → 0 ≤ e ∧ e < (List.length p0 : Int)) (
          (if ((decide ((ix p0 e).Persons < 1)) || (decide (100 < (ix p0 e).Persons))) = true then
           some (.done (.done ((1 : Int))))
          else
           ck (I64 (e + 1)) (
            some (.next (e + 1))))))))
     else
      some (.done (.next ())))) N 0)
   fun (_s44 : Unit) =>
    (andThen
     (loopM (fun (f : Int) =>
      (if f < (List.length p0 : Int) then
       (andThen
        (loopM (fun (g : Int) =>
         (if g < f then
          ck (0 ≤ f ∧ f < (List.length p0 : Int)) (
           ck (0 ≤ g ∧ g < (List.length p0 : Int)) (
            (if ((ix p0 f).ID) = ((ix p0 g).ID) then
             some (.done (.done (.done (.done ((6 : Int))))))
            else
             ck (I64 (g + 1)) (
              some (.next (g + 1))))))
         else
          some (.done (.next ())))) N 0)
       fun (_s348 : Unit) =>
        ck (I64 (f + 1)) (
         some (.next (f + 1))))
      else
       some (.done (.next ())))) N 0)
    fun (_s226 : Unit) =>
     (if 512 < (List.length p2 : Int) then
      some (8)
     else
      (andThen
       (loopM (fun (a : Int) =>
        (if a < (List.length p2 : Int) then
         ck (0 ≤ a ∧ a < (List.length p2 : Int)) (
          ck ((!(decide ((ix p2 a).Container < 0))) = true → 0 ≤ a ∧ a < (List.length p2 : Int)) (
           ck ((!((decide ((ix p2 a).Container < 0)) || (decide (p1 ≤ (ix p2 a).Container)))) = true → 0 ≤ a ∧ a < (List.length p2 : Int)) (
            ck ((!(((decide ((ix p2 a).Container < 0)) || (decide (p1 ≤ (ix p2 a).Container))) || (decide ((ix p2 a).Household < 0)))) = true → 0 ≤ a ∧ a < (List.length p2 : Int)) (
             (if ((((decide ((ix p2 a).Container < 0)) || (decide (p1 ≤ (ix p2 a).Container))) || (decide ((ix p2 a).Household < 0))) || (decide ((List.length p0 : Int) ≤ (ix p2 a).Household))) = true then
              some (.done (.done ((7 : Int))))
             else
              ck (0 ≤ a ∧ a < (List.length p2 : Int)) (
               Option.bind (m_recyclingref14_Window N ((ix p2 a).When)) fun j => (if (!j) = true then
                some (.done (.done ((1 : Int))))
               else
                ck (I64 (a + 1)) (
                 some (.next (a + 1))))))))))
        else
         some (.done (.next ())))) N 0)
      fun (_s421 : Unit) =>
       (andThen
        (loopM (fun (b : Int) =>
         (if b < (List.length p2 : Int) then
          (andThen
           (loopM (fun (d : Int) =>
            (if d < b then
             ck (0 ≤ b ∧ b < (List.length p2 : Int)) (
              ck (0 ≤ d ∧ d < (List.length p2 : Int)) (
               Option.bind (m_recyclingref14_common N ((ix p2 b).When) ((ix p2 d).When)) fun i => ck (i.2 = true → 0 ≤ b ∧ b < (List.length p2 : Int)) (
                ck (i.2 = true → 0 ≤ d ∧ d < (List.length p2 : Int)) (
                 (if (i.2 && (decide ((ix p2 b).Container = (ix p2 d).Container))) = true then
                  some (.done (.done (.done (.done ((12 : Int))))))
                 else
                  ck (I64 (d + 1)) (
                   some (.next (d + 1))))))))
            else
             some (.done (.next ())))) N 0)
          fun (_s2255 : Unit) =>
           ck (I64 (b + 1)) (
            some (.next (b + 1))))
         else
          some (.done (.next ())))) N 0)
       fun (_s1443 : Unit) =>
        some (0))))))))
set_option maxHeartbeats 2000000 in
set_option maxRecDepth 20000 in
theorem m_recyclingref14_Check_ok (N : Nat) (w0 : World) (p0 : (List ApiHousehold)) (p1 : Int) (p2 : (List ApiAssign)) (J : Ad) (K L : Nat) (i : Ad) (l q : Nat) (z : RdE w0 2 encApiHousehold J p0) (G : SW J K L (List.length p0)) (a : RdE w0 4 encApiAssign i p2) (e : SW i l q (List.length p2)) (r : Int) (hr : m_recyclingref14_Check N p0 p1 p2 = some r) :
  Ret Tryz.prog 30 [S J K L, I p1, S i l q] w0 VI H0 r := by
 refine calls_v (n := 161) r hr Tryz.func30 ?_
 unfold m_recyclingref14_Check
 refine sr <| la 1 ((6, I _) :: _) rfl <| nn <| cm_seq <| cm_seq <| cm_cutE [(20, B ((decide (p1 < 0)) || (decide (256 < p1))))] ?_ ?_
 ·refine qa 1 ((15, I _) :: _) rfl <| qd 16 (fun _ _ => op_lss rfl rfl) (fun h5 => ?_) (fun h5 => ?_)
  ·exact qa 4 ((20, B true) :: (19, undef) :: (18, undef) :: (17, B true) :: _) rfl <| lb 6 rfl (by rw [dt h5] <;> rfl)
  ·exact qa 4 ((20, B _) :: (19, B _) :: (18, I _) :: (17, B false) :: _) rfl <| lb 6 rfl (by rw [df h5] <;> rfl)
 refine xm_next <| cB rfl (fun h6 => ?_) (fun h6 => ?_)
 ·exact sr <| la 1 ((6, I _) :: _) rfl <| nn <| cm_ret <| xm_thenR <| xr [] ()
 ·refine sk <| cm_seq <| sr <| la 1 ((21, S _ _ _) :: _) rfl <| vn 22 G rfl <| la 1 ((23, B _) :: _) rfl <| nn <| cc rfl (fun h7 => ?_) (fun h7 => ?_)
  ·exact sr <| la 1 ((6, I _) :: _) rfl <| nn <| cm_ret <| xm_thenR <| xr [] ()
  ·refine sk <| cm_join (σ := Unit) (ξ := Unit) (fun b8 b9 => [(0, S J K L), (1, I p1), (2, S i l q)]) (fun b8 b9 => []) ?_ ?_
   ·refine sr <| la 1 ((7, I _) :: _) rfl <| nn <| cm_block <| cm_loop (σ := Int) (ξ := Unit) (fun V ba => [(0, S J K L), (1, I p1), (2, S i l q), (7, I V)]) (fun V ba => []) () ?_ ?_ ?_
    ·exact sq
    ·exact sh []
    intro V ba
    refine cm_seq <| sr <| la 2 ((25, S _ _ _) :: (24, I _) :: _) rfl <| vn 26 G rfl <| la 1 ((27, B _) :: _) rfl <| nn <| cc rfl (fun bl => ?_) (fun bl => ?_)
    ·refine sk <| cm_seq <| cm_block <| cm_seq <| sr <| la 2 ((31, I _) :: (30, S _ _ _) :: _) rfl <| lm_ck (fun aq => ?_)
     refine vi 32 2 z G aq rfl rfl <| vF 33 rfl <| v_ 34 (fun _ c1 => oL (v := .string ((ix p0 V).ID)) ((z.old c1).cell0 aq.1 aq.2 rfl)) <| lc 35 (fun r1 hr1 w1 c1 => m_recyclingref04_Valid_ok N w1 ((ix p0 V).ID)  r1 hr1) fun c6 c7 => la 1 ((36, B _) :: _) rfl <| nn <| cB rfl (fun bm => ?_) (fun bm => ?_)
     ·exact sr <| la 1 ((6, I _) :: _) rfl <| nn <| cm_ret <| xm_thenR <| xm_inR <| xm_thenR <| xm_lret <| xm_inR <| xm_lret <| xr [] ()
     ·refine sk <| cm_seq <| cm_ck (fun ar => ?_)
      refine cm_ck (fun a9 => ?_)
      refine cm_cutE [(50, B ((decide ((ix p0 V).Persons < 1)) || (decide (100 < (ix p0 V).Persons))))] ?_ ?_
      ·refine qa 2 ((38, I _) :: (37, S _ _ _) :: _) rfl <| qi 39 2 z G ar rfl rfl <| q_ 40 (fun _ _ => op_field (m := 1) rfl (by kernel_rfl)) <| q_ 41 (fun _ c1 => oL (v := I ((ix p0 V).Persons)) ((z.old c1).cell (j := 1) ar.1 ar.2 rfl)) <| qd 42 (fun _ _ => op_lss rfl rfl) (fun a1 => ?_) (fun a1 => ?_)
       ·exact qa 8 ((50, B true) :: uz 49 6 ((43, B true) :: _)) rfl <| lb 14 rfl (by rw [dt a1] <;> rfl)
       ·exact qa 3 ((45, I _) :: (44, S _ _ _) :: (43, B false) :: _) rfl <| q_ 46 (fun _ c1 => oI 2 rfl rfl ((z.old c1).addr (a9 (by rw [df a1] <;> rfl)).1 (a9 (by rw [df a1] <;> rfl)).2) G.2.2 (a9 (by rw [df a1] <;> rfl))) <| q_ 47 (fun _ _ => op_field (m := 1) rfl (by kernel_rfl)) <| q_ 48 (fun _ c1 => oL (v := I ((ix p0 V).Persons)) ((z.old c1).cell (j := 1) (a9 (by rw [df a1] <;> rfl)).1 (a9 (by rw [df a1] <;> rfl)).2 rfl)) <| qa 2 ((50, B _) :: (49, B _) :: _) rfl <| lb 14 rfl (by rw [df a1] <;> rfl)
      refine xm_next <| cB rfl (fun bn => ?_) (fun bn => ?_)
      ·exact sr <| la 1 ((6, I _) :: _) rfl <| nn <| cm_ret <| xm_inR <| xm_thenR <| xm_lret <| xm_inR <| xm_lret <| xr [] ()
      ·refine cm_skip <| xm_inN <| xm_next <| cm_region <| la 1 ((28, I _) :: _) rfl <| lm_ck (fun bo => ?_)
       exact va 29 bo rfl rfl <| la 1 ((7, I _) :: _) rfl <| lm_nil <| xn () []
    ·exact cm_exit <| xm_thenE <| xm_lexit <| xm_here <| xn () []
   intro b8 b9
   refine cm_join (σ := Unit) (ξ := Unit) (fun au av => [(0, S J K L), (1, I p1), (2, S i l q)]) (fun au av => []) ?_ ?_
   ·refine sr <| la 1 ((8, I _) :: _) rfl <| nn <| cm_block <| cm_loop (σ := Int) (ξ := Unit) (fun U aw => [(0, S J K L), (1, I p1), (2, S i l q), (8, I U)]) (fun U aw => []) () ?_ ?_ ?_
    ·exact sq
    ·exact sh []
    intro U aw
    refine cm_seq <| sr <| la 2 ((52, S _ _ _) :: (51, I _) :: _) rfl <| vn 53 G rfl <| la 1 ((54, B _) :: _) rfl <| nn <| cc rfl (fun bb => ?_) (fun bb => ?_)
    ·refine sk <| cm_join (σ := Unit) (ξ := Unit) (fun ax ay => [(0, S J K L), (1, I p1), (2, S i l q), (8, I U)]) (fun ax ay => []) ?_ ?_
     ·refine cm_block <| sr <| la 1 ((9, I _) :: _) rfl <| nn <| cm_block <| cm_loop (σ := Int) (ξ := Unit) (fun a3 az => [(0, S J K L), (1, I p1), (2, S i l q), (8, I U), (9, I a3)]) (fun a3 az => []) () ?_ ?_ ?_
      ·exact sq
      ·exact sh []
      intro a3 az
      refine cm_seq <| sr <| la 3 ((59, B _) :: (58, I _) :: (57, I _) :: _) rfl <| nn <| cc rfl (fun bc => ?_) (fun bc => ?_)
      ·refine sk <| cm_seq <| cm_block <| cm_seq <| cm_ck (fun aa => ?_)
       refine cm_ck (fun ab => ?_)
       refine cm_drawn [(72, B (decide (((ix p0 U).ID) = ((ix p0 a3).ID))))] (by kernel_rfl) (by kernel_rfl) ?_ ?_
       ·exact qa 2 ((63, I _) :: (62, S _ _ _) :: _) rfl <| qi 64 2 z G aa rfl rfl <| qF 65 rfl <| q_ 66 (fun _ c1 => oL (v := .string ((ix p0 U).ID)) ((z.old c1).cell0 aa.1 aa.2 rfl)) <| qa 2 ((68, I _) :: (67, S _ _ _) :: _) rfl <| qi 69 2 z G ab rfl rfl <| qF 70 rfl <| q_ 71 (fun _ c1 => oL (v := .string ((ix p0 a3).ID)) ((z.old c1).cell0 ab.1 ab.2 rfl)) <| q_ 72 (fun _ _ => op_eqlS rfl rfl) <| lq 11
       refine xm_next <| cc rfl (fun bd => ?_) (fun bd => ?_)
       ·exact sr <| la 1 ((6, I _) :: _) rfl <| nn <| cm_ret <| xm_inR <| xm_thenR <| xm_lret <| xm_inR <| xm_inR <| xm_lret <| xm_lret <| xm_inR <| xm_lret <| xr [] ()
       ·refine cm_skip <| xm_inN <| xm_next <| cm_region <| la 1 ((60, I _) :: _) rfl <| lm_ck (fun be => ?_)
        exact va 61 be rfl rfl <| la 1 ((9, I _) :: _) rfl <| lm_nil <| xn () []
      ·exact cm_exit <| xm_thenE <| xm_lexit <| xm_here <| xm_inN <| xn () []
     intro ax ay
     refine cm_region <| la 1 ((55, I _) :: _) rfl <| lm_ck (fun bf => ?_)
     exact va 56 bf rfl rfl <| la 1 ((8, I _) :: _) rfl <| lm_nil <| xn () []
    ·exact cm_exit <| xm_thenE <| xm_lexit <| xm_here <| xn () []
   intro au av
   refine cm_seq <| sr <| la 1 ((73, S _ _ _) :: _) rfl <| vn 74 e rfl <| la 1 ((75, B _) :: _) rfl <| nn <| cc rfl (fun bg => ?_) (fun bg => ?_)
   ·exact sr <| la 1 ((6, I _) :: _) rfl <| nn <| cm_ret <| xm_thenR <| xr [] ()
   ·refine sk <| cm_join (σ := Unit) (ξ := Unit) (fun b0 b1 => [(2, S i l q)]) (fun b0 b1 => []) ?_ ?_
    ·refine sr <| la 1 ((10, I _) :: _) rfl <| nn <| cm_block <| cm_loop (σ := Int) (ξ := Unit) (fun t b2 => [(0, S J K L), (1, I p1), (2, S i l q), (10, I t)]) (fun t b2 => []) () ?_ ?_ ?_
     ·exact sq
     ·exact sh []
     intro t b2
     refine cm_seq <| sr <| la 2 ((77, S _ _ _) :: (76, I _) :: _) rfl <| vn 78 e rfl <| la 1 ((79, B _) :: _) rfl <| nn <| cc rfl (fun bh => ?_) (fun bh => ?_)
     ·refine sk <| cm_seq <| cm_block <| cm_seq <| cm_seq <| cm_ck (fun ac => ?_)
      refine cm_ck (fun a4 => ?_)
      refine cm_ck (fun a5 => ?_)
      refine cm_ck (fun a6 => ?_)
      refine cm_cutE [(114, B ((((decide ((ix p2 t).Container < 0)) || (decide (p1 ≤ (ix p2 t).Container))) || (decide ((ix p2 t).Household < 0))) || (decide ((List.length p0 : Int) ≤ (ix p2 t).Household))))] ?_ ?_
      ·refine qa 2 ((83, I _) :: (82, S _ _ _) :: _) rfl <| qi 84 4 a e ac rfl rfl <| qF 85 rfl <| q_ 86 (fun _ c1 => oL (v := I ((ix p2 t).Container)) ((a.old c1).cell0 ac.1 ac.2 rfl)) <| qd 87 (fun _ _ => op_lss rfl rfl) (fun b => ?_) (fun b => ?_)
       ·exact qa 27 ((114, B true) :: uz 113 8 ((105, B true) :: (104, B true) :: uz 103 6 ((97, B true) :: (96, B true) :: uz 95 7 ((88, B true) :: _)))) rfl <| lb 33 rfl (by rw [dt b] <;> rfl)
       ·refine qa 3 ((90, I _) :: (89, S _ _ _) :: (88, B false) :: _) rfl <| q_ 91 (fun _ c1 => oI 4 rfl rfl ((a.old c1).addr (a4 (by rw [df b] <;> rfl)).1 (a4 (by rw [df b] <;> rfl)).2) e.2.2 (a4 (by rw [df b] <;> rfl))) <| qF 92 rfl <| q_ 93 (fun _ c1 => oL (v := I ((ix p2 t).Container)) ((a.old c1).cell0 (a4 (by rw [df b] <;> rfl)).1 (a4 (by rw [df b] <;> rfl)).2 rfl)) <| qa 1 ((94, I _) :: _) rfl <| qd 95 (fun _ _ => op_geq rfl rfl) (fun y => ?_) (fun y => ?_)
        ·exact qa 19 ((114, B true) :: uz 113 8 ((105, B true) :: (104, B true) :: uz 103 6 ((97, B true) :: (96, B true) :: _))) rfl <| lb 33 rfl (by rw [df b, dt y] <;> rfl)
        ·refine qa 4 ((99, I _) :: (98, S _ _ _) :: (97, B false) :: (96, B false) :: _) rfl <| q_ 100 (fun _ c1 => oI 4 rfl rfl ((a.old c1).addr (a5 (by rw [df b, df y] <;> rfl)).1 (a5 (by rw [df b, df y] <;> rfl)).2) e.2.2 (a5 (by rw [df b, df y] <;> rfl))) <| q_ 101 (fun _ _ => op_field (m := 1) rfl (by kernel_rfl)) <| q_ 102 (fun _ c1 => oL (v := I ((ix p2 t).Household)) ((a.old c1).cell (j := 1) (a5 (by rw [df b, df y] <;> rfl)).1 (a5 (by rw [df b, df y] <;> rfl)).2 rfl)) <| qd 103 (fun _ _ => op_lss rfl rfl) (fun Q => ?_) (fun Q => ?_)
         ·exact qa 11 ((114, B true) :: uz 113 8 ((105, B true) :: (104, B true) :: _)) rfl <| lb 33 rfl (by rw [df b, df y, dt Q] <;> rfl)
         ·exact qa 4 ((107, I _) :: (106, S _ _ _) :: (105, B false) :: (104, B false) :: _) rfl <| q_ 108 (fun _ c1 => oI 4 rfl rfl ((a.old c1).addr (a6 (by rw [df b, df y, df Q] <;> rfl)).1 (a6 (by rw [df b, df y, df Q] <;> rfl)).2) e.2.2 (a6 (by rw [df b, df y, df Q] <;> rfl))) <| q_ 109 (fun _ _ => op_field (m := 1) rfl (by kernel_rfl)) <| q_ 110 (fun _ c1 => oL (v := I ((ix p2 t).Household)) ((a.old c1).cell (j := 1) (a6 (by rw [df b, df y, df Q] <;> rfl)).1 (a6 (by rw [df b, df y, df Q] <;> rfl)).2 rfl)) <| qa 1 ((111, S _ _ _) :: _) rfl <| qn 112 G rfl <| qa 2 ((114, B _) :: (113, B _) :: _) rfl <| lb 33 rfl (by rw [df b, df y, df Q] <;> rfl)
      refine xm_next <| cB rfl (fun bi => ?_) (fun bi => ?_)
      ·exact sr <| la 1 ((6, I _) :: _) rfl <| nn <| cm_ret <| xm_thenR <| xm_inR <| xm_thenR <| xm_lret <| xm_inR <| xm_lret <| xr [] ()
      ·refine sk <| sr <| la 2 ((116, I _) :: (115, S _ _ _) :: _) rfl <| lm_ck (fun ad => ?_)
       refine vi 117 4 a e ad rfl rfl <| v_ 118 (fun _ _ => op_field (m := 2) rfl (by kernel_rfl)) <| v_ 119 (fun _ c1 => oR [I ((ix p2 t).When.From), I ((ix p2 t).When.To)] ((a.old c1).part (o := 2) ad.1 ad.2 rfl)) <| lc 120 (fun r1 hr1 w1 c1 => m_recyclingref14_Window_ok N w1 ((ix p2 t).When)  r1 hr1) fun c4 c5 => la 1 ((121, B _) :: _) rfl <| nn <| cB rfl (fun bj => ?_) (fun bj => ?_)
       ·exact sr <| la 1 ((6, I _) :: _) rfl <| nn <| cm_ret <| xm_inR <| xm_thenR <| xm_lret <| xm_inR <| xm_lret <| xr [] ()
       ·refine cm_skip <| xm_inN <| xm_next <| cm_region <| la 1 ((80, I _) :: _) rfl <| lm_ck (fun bk => ?_)
        exact va 81 bk rfl rfl <| la 1 ((10, I _) :: _) rfl <| lm_nil <| xn () []
     ·exact cm_exit <| xm_thenE <| xm_lexit <| xm_here <| xn () []
    intro b0 b1
    refine cm_join (σ := Unit) (ξ := Unit) (fun ae af => []) (fun ae af => []) ?_ ?_
    ·refine sr <| la 1 ((11, I _) :: _) rfl <| nn <| cm_block <| cm_loop (σ := Int) (ξ := Unit) (fun f ag => [(2, S i l q), (11, I f)]) (fun f ag => []) () ?_ ?_ ?_
     ·exact sq
     ·exact sh []
     intro f ag
     refine cm_seq <| sr <| la 2 ((123, S _ _ _) :: (122, I _) :: _) rfl <| vn 124 e rfl <| la 1 ((125, B _) :: _) rfl <| nn <| cc rfl (fun b3 => ?_) (fun b3 => ?_)
     ·refine sk <| cm_join (σ := Unit) (ξ := Unit) (fun ah ai => [(2, S i l q), (11, I f)]) (fun ah ai => []) ?_ ?_
      ·refine cm_block <| sr <| la 1 ((12, I _) :: _) rfl <| nn <| cm_block <| cm_loop (σ := Int) (ξ := Unit) (fun C aj => [(2, S i l q), (11, I f), (12, I C)]) (fun C aj => []) () ?_ ?_ ?_
       ·exact sq
       ·exact sh []
       intro C aj
       refine cm_seq <| sr <| la 3 ((130, B _) :: (129, I _) :: (128, I _) :: _) rfl <| nn <| cc rfl (fun b4 => ?_) (fun b4 => ?_)
       ·refine sk <| cm_seq <| cm_block <| cm_seq <| cm_ck (fun X => ?_)
        refine cm_ck (fun Y => ?_)
        refine cm_bind fun a2 ak => cm_held (ξ := Unit) (fun am => [(2, S i l q), (11, I f), (12, I C), (14, B a2.2)]) (fun am => []) [] 17 (by kernel_rfl) (by rfl) (hsub [] (by kernel_rfl) (by rfl)) ?_ ?_
        ·intro bp g
         refine wt 0 134 rfl (fun w2 c2 => (op_move (v := S _ _ _) rfl)) (hs [] g) <| wt 1 135 rfl (fun w2 c2 => (op_move (v := I _) rfl)) (hs [] g) <| wt 2 136 rfl (fun w2 c2 => oI 4 rfl rfl ((a.old c2).addr X.1 X.2) e.2.2 X) (hs [] g) <| wt 3 137 rfl (fun w2 c2 => (op_field (m := 2) rfl (by kernel_rfl))) (hs [] g) <| wt 4 138 rfl (fun w2 c2 => (op_loadR [I ((ix p2 f).When.From), I ((ix p2 f).When.To)] rfl (by kernel_rfl) ((a.old c2).part (o := 2) X.1 X.2 rfl))) (hs [] g) <| wt 5 139 rfl (fun w2 c2 => (op_move (v := S _ _ _) rfl)) (hs [] g) <| wt 6 140 rfl (fun w2 c2 => (op_move (v := I _) rfl)) (hs [] g) <| wt 7 141 rfl (fun w2 c2 => oI 4 rfl rfl ((a.old c2).addr Y.1 Y.2) e.2.2 Y) (hs [] g) <| wt 8 142 rfl (fun w2 c2 => (op_field (m := 2) rfl (by kernel_rfl))) (hs [] g) <| wt 9 143 rfl (fun w2 c2 => (op_loadR [I ((ix p2 C).When.From), I ((ix p2 C).When.To)] rfl (by kernel_rfl) ((a.old c2).part (o := 2) Y.1 Y.2 rfl))) (hs [] g) <| wh_ready [10, 14] (by kernel_rfl) rfl ⟨?_, ?_, trivial⟩
         ·refine ws_call 144 rfl (by kernel_rfl) (op_call (by kernel_rfl)) (m_recyclingref14_common_ok N _ ((ix p2 f).When) ((ix p2 C).When)  a2 ak) ?_
          rintro x bq ⟨br, rfl, M⟩
          replace M := g.call M
          refine ⟨_, rfl, (hs [] M), ?_⟩
          refine wt 11 133 rfl (fun w2 c2 => (op_move (v := .tuple _) rfl)) (hs [] M) <| wt 12 145 rfl (fun w2 c2 => (op_extract (v := .agg _) rfl rfl)) (hs [] M) <| wt 13 146 rfl (fun w2 c2 => (op_extract (v := B _) rfl rfl)) (hs [] M) <| wh_ready [14] (by kernel_rfl) rfl ⟨?_, trivial⟩
          refine ws_alloc 13 [I 0, I 0] (v := .agg #[I 0, I 0]) rfl (by kernel_rfl) (by kernel_rfl) rfl M fun bs bt an => ⟨(hs [] an), ?_⟩
          refine wh_ready [15] (by kernel_rfl) rfl ⟨?_, trivial⟩
          refine ws_storeA 0 [I _, I _] [_, _] rfl (by kernel_rfl) rfl rfl (by kernel_rfl) rfl rfl (by kernel_rfl) rfl (H' := [blkE _ _ [_, _]]) rfl an fun bu a7 => ⟨(hs [] a7), ?_⟩
          exact wt 16 14 rfl (fun w2 c2 => (op_assign (v := B _) rfl)) (hs [] a7) <| wh_done () (by kernel_rfl) sq (hs [] a7)
         ·refine ws_alloc 13 [I 0, I 0] (v := .agg #[I 0, I 0]) rfl (by kernel_rfl) (by kernel_rfl) rfl g fun bv bw ao => ⟨(hs [] ao), ?_⟩
          refine wh_ready [10] (by kernel_rfl) rfl ⟨?_, trivial⟩
          refine ws_call 144 rfl (by kernel_rfl) (op_call (by kernel_rfl)) (m_recyclingref14_common_ok N _ ((ix p2 f).When) ((ix p2 C).When)  a2 ak) ?_
          rintro x bz ⟨c0, rfl, O⟩
          replace O := ao.call O
          refine ⟨_, rfl, (hs [] O), ?_⟩
          refine wt 11 133 rfl (fun w2 c2 => (op_move (v := .tuple _) rfl)) (hs [] O) <| wt 12 145 rfl (fun w2 c2 => (op_extract (v := .agg _) rfl rfl)) (hs [] O) <| wt 13 146 rfl (fun w2 c2 => (op_extract (v := B _) rfl rfl)) (hs [] O) <| wh_ready [15] (by kernel_rfl) rfl ⟨?_, trivial⟩
          refine ws_storeA 0 [I _, I _] [_, _] rfl (by kernel_rfl) rfl rfl (by kernel_rfl) rfl rfl (by kernel_rfl) rfl (H' := [blkE _ _ [_, _]]) rfl O fun c3 a8 => ⟨(hs [] a8), ?_⟩
          exact wt 16 14 rfl (fun w2 c2 => (op_assign (v := B _) rfl)) (hs [] a8) <| wh_done () (by kernel_rfl) sq (hs [] a8)
        intro am
        refine xm_next <| cm_seq <| cm_ck (fun Z => ?_)
        refine cm_ck (fun a0 => ?_)
        refine cm_drawn [(160, B (a2.2 && (decide ((ix p2 f).Container = (ix p2 C).Container))))] (by kernel_rfl) (by kernel_rfl) ?_ ?_
        ·refine wq_bool 147 (by kernel_rfl) (fun w1 c1 => (op_move (v := B _) rfl)) (fun d => ?_) (fun d => ?_)
         ·exact qa 3 ((150, I _) :: (149, S _ _ _) :: (148, B true) :: _) rfl <| q_ 151 (fun _ c1 => oI 4 rfl rfl ((a.old c1).addr (Z (by rw [d] <;> rfl)).1 (Z (by rw [d] <;> rfl)).2) e.2.2 (Z (by rw [d] <;> rfl))) <| qF 152 rfl <| q_ 153 (fun _ c1 => oL (v := I ((ix p2 f).Container)) ((a.old c1).cell0 (Z (by rw [d] <;> rfl)).1 (Z (by rw [d] <;> rfl)).2 rfl)) <| qa 2 ((155, I _) :: (154, S _ _ _) :: _) rfl <| q_ 156 (fun _ c1 => oI 4 rfl rfl ((a.old c1).addr (a0 (by rw [d] <;> rfl)).1 (a0 (by rw [d] <;> rfl)).2) e.2.2 (a0 (by rw [d] <;> rfl))) <| qF 157 rfl <| q_ 158 (fun _ c1 => oL (v := I ((ix p2 C).Container)) ((a.old c1).cell0 (a0 (by rw [d] <;> rfl)).1 (a0 (by rw [d] <;> rfl)).2 rfl)) <| qa 2 ((160, B _) :: (159, B _) :: _) rfl <| lb 14 rfl (by rw [d] <;> rfl)
         ·exact qa 13 ((160, B false) :: uz 159 11 ((148, B false) :: _)) rfl <| lb 14 rfl (by rw [d] <;> rfl)
        refine xm_next <| cB rfl (fun b5 => ?_) (fun b5 => ?_)
        ·exact sr <| la 1 ((6, I _) :: _) rfl <| nn <| cm_ret <| xm_inR <| xm_thenR <| xm_lret <| xm_inR <| xm_inR <| xm_lret <| xm_lret <| xm_inR <| xm_lret <| xr [] ()
        ·refine cm_skip <| xm_inN <| xm_next <| cm_region <| la 1 ((131, I _) :: _) rfl <| lm_ck (fun b6 => ?_)
         exact va 132 b6 rfl rfl <| la 1 ((12, I _) :: _) rfl <| lm_nil <| xn () []
       ·exact cm_exit <| xm_thenE <| xm_lexit <| xm_here <| xm_inN <| xn () []
      intro ah ai
      refine cm_region <| la 1 ((126, I _) :: _) rfl <| lm_ck (fun b7 => ?_)
      exact va 127 b7 rfl rfl <| la 1 ((11, I _) :: _) rfl <| lm_nil <| xn () []
     ·exact cm_exit <| xm_thenE <| xm_lexit <| xm_here <| xm_lnext () sub_nil (sh [])
    intro ae af
    exact sr <| la 1 ((6, I _) :: _) rfl <| nn <| cm_ret <| xr [] ()
/-- recyclingref53.Usable -/
def m_recyclingref53_Usable (_N : Nat) (p0 : ApiTariff) : Option (Bool) :=
 some (((((((((decide (0 ≤ p0.Base)) && (decide (p0.Base ≤ 100000))) && (decide (0 ≤ p0.Empty))) && (decide (p0.Empty ≤ 100000))) && (decide (0 ≤ p0.Kilo))) && (decide (p0.Kilo ≤ 100000))) && (decide (0 ≤ p0.Free))) && (decide (p0.Free ≤ 1000))))
set_option maxHeartbeats 2000000 in
set_option maxRecDepth 20000 in
theorem m_recyclingref53_Usable_ok (N : Nat) (w0 : World) (p0 : ApiTariff)   (r : Bool) (hr : m_recyclingref53_Usable N p0 = some r) :
  Ret Tryz.prog 81 [.agg #[I p0.From, I p0.Base, I p0.Empty, I p0.Kilo, I p0.Free]] w0 VB H0 r := by
 refine calls_v (n := 41) r hr Tryz.func81 ?_
 unfold m_recyclingref53_Usable
 refine sr <| bx 1 [I _, I _, I _, I _, I _] rfl fun b5 => la 1 ((2, B false) :: _) rfl <| nn <| cm_seq <| cm_cutE [(2, B ((((((((decide (0 ≤ p0.Base)) && (decide (p0.Base ≤ 100000))) && (decide (0 ≤ p0.Empty))) && (decide (p0.Empty ≤ 100000))) && (decide (0 ≤ p0.Kilo))) && (decide (p0.Kilo ≤ 100000))) && (decide (0 ≤ p0.Free))) && (decide (p0.Free ≤ 1000))))] ?_ ?_
 ·refine qf 3 1 1 rfl <| qc 4 0 rfl rfl rfl <| qd 5 (fun _ _ => op_geq rfl rfl) (fun h6 => ?_) (fun h6 => ?_)
  ·refine qa 1 ((6, B true) :: _) rfl <| qf 7 1 1 rfl <| qc 8 0 rfl rfl rfl <| qd 9 (fun _ _ => op_leq rfl rfl) (fun h7 => ?_) (fun h7 => ?_)
   ·refine qa 2 ((11, B true) :: (10, B true) :: _) rfl <| qf 12 2 2 rfl <| qc 13 0 rfl rfl rfl <| qd 14 (fun _ _ => op_geq rfl rfl) (fun h8 => ?_) (fun h8 => ?_)
    ·refine qa 2 ((16, B true) :: (15, B true) :: _) rfl <| qf 17 2 2 rfl <| qc 18 0 rfl rfl rfl <| qd 19 (fun _ _ => op_leq rfl rfl) (fun h9 => ?_) (fun h9 => ?_)
     ·refine qa 2 ((21, B true) :: (20, B true) :: _) rfl <| qf 22 3 3 rfl <| qc 23 0 rfl rfl rfl <| qd 24 (fun _ _ => op_geq rfl rfl) (fun a => ?_) (fun a => ?_)
      ·refine qa 2 ((26, B true) :: (25, B true) :: _) rfl <| qf 27 3 3 rfl <| qc 28 0 rfl rfl rfl <| qd 29 (fun _ _ => op_leq rfl rfl) (fun b => ?_) (fun b => ?_)
       ·refine qa 2 ((31, B true) :: (30, B true) :: _) rfl <| qf 32 4 4 rfl <| qc 33 0 rfl rfl rfl <| qd 34 (fun _ _ => op_geq rfl rfl) (fun d => ?_) (fun d => ?_)
        ·exact qa 2 ((36, B true) :: (35, B true) :: _) rfl <| qf 37 4 4 rfl <| qc 38 0 rfl rfl rfl <| qa 3 ((2, B _) :: (40, B _) :: (39, B _) :: _) rfl <| lb 39 rfl (by rw [dt h6, dt h7, dt h8, dt h9, dt a, dt b, dt d] <;> rfl)
        ·exact qa 7 ((2, B false) :: (40, B false) :: uz 39 3 ((36, B false) :: (35, B false) :: _)) rfl <| lb 39 rfl (by rw [dt h6, dt h7, dt h8, dt h9, dt a, dt b, df d] <;> rfl)
       ·exact qa 12 ((2, B false) :: (40, B false) :: uz 39 3 ((36, B false) :: (35, B false) :: uz 34 3 ((31, B false) :: (30, B false) :: _))) rfl <| lb 39 rfl (by rw [dt h6, dt h7, dt h8, dt h9, dt a, df b] <;> rfl)
      ·exact qa 17 ((2, B false) :: (40, B false) :: uz 39 3 ((36, B false) :: (35, B false) :: uz 34 3 ((31, B false) :: (30, B false) :: uz 29 3 ((26, B false) :: (25, B false) :: _)))) rfl <| lb 39 rfl (by rw [dt h6, dt h7, dt h8, dt h9, df a] <;> rfl)
     ·exact qa 22 ((2, B false) :: (40, B false) :: uz 39 3 ((36, B false) :: (35, B false) :: uz 34 3 ((31, B false) :: (30, B false) :: uz 29 3 ((26, B false) :: (25, B false) :: uz 24 3 ((21, B false) :: (20, B false) :: _))))) rfl <| lb 39 rfl (by rw [dt h6, dt h7, dt h8, df h9] <;> rfl)
    ·exact qa 27 ((2, B false) :: (40, B false) :: uz 39 3 ((36, B false) :: (35, B false) :: uz 34 3 ((31, B false) :: (30, B false) :: uz 29 3 ((26, B false) :: (25, B false) :: uz 24 3 ((21, B false) :: (20, B false) :: uz 19 3 ((16, B false) :: (15, B false) :: _)))))) rfl <| lb 39 rfl (by rw [dt h6, dt h7, df h8] <;> rfl)
   ·exact qa 32 ((2, B false) :: (40, B false) :: uz 39 3 ((36, B false) :: (35, B false) :: uz 34 3 ((31, B false) :: (30, B false) :: uz 29 3 ((26, B false) :: (25, B false) :: uz 24 3 ((21, B false) :: (20, B false) :: uz 19 3 ((16, B false) :: (15, B false) :: uz 14 3 ((11, B false) :: (10, B false) :: _))))))) rfl <| lb 39 rfl (by rw [dt h6, df h7] <;> rfl)
  ·exact qa 36 ((2, B false) :: (40, B false) :: uz 39 3 ((36, B false) :: (35, B false) :: uz 34 3 ((31, B false) :: (30, B false) :: uz 29 3 ((26, B false) :: (25, B false) :: uz 24 3 ((21, B false) :: (20, B false) :: uz 19 3 ((16, B false) :: (15, B false) :: uz 14 3 ((11, B false) :: (10, B false) :: uz 9 3 ((6, B false) :: _)))))))) rfl <| lb 39 rfl (by rw [df h6] <;> rfl)
 exact xm_next <| cm_ret <| xr [] ()
/-- recyclingref53.Check -/
def m_recyclingref53_Check (N : Nat) (p0 : (List ApiTariff)) : Option (Int) :=
 (if (List.length p0 : Int) = 0 then
  some (10)
 else
  (if 8 < (List.length p0 : Int) then
   some (8)
  else
   (andThen
    (loopM (fun (a : Int) =>
     (if a < (List.length p0 : Int) then
      ck (0 ≤ a ∧ a < (List.length p0 : Int)) (
       ck ((!(decide ((ix p0 a).From < 0))) = true → 0 ≤ a ∧ a < (List.length p0 : Int)) (
        ck ((!((decide ((ix p0 a).From < 0)) || (decide (36524 < (ix p0 a).From)))) = true → 0 ≤ a ∧ a < (List.length p0 : Int)) (
         callIf ((!((decide ((ix p0 a).From < 0)) || (decide (36524 < (ix p0 a).From)))) = true) (m_recyclingref53_Usable N (ix p0 a)) fun d => (if (((decide ((ix p0 a).From < 0)) || (decide (36524 < (ix p0 a).From))) || (!d)) = true then
          some (.done (.done ((1 : Int))))
         else
          ck (I64 (a + 1)) (
           some (.next (a + 1)))))))
     else
      some (.done (.next ())))) N 0)
   fun (_s43 : Unit) =>
    (andThen
     (loopM (fun (b : Int) =>
      (if b < (List.length p0 : Int) then
       ck (0 ≤ b ∧ b < (List.length p0 : Int)) (
        ck (I64 (b - 1)) (
         ck (0 ≤ (b - 1) ∧ (b - 1) < (List.length p0 : Int)) (
          (if (ix p0 b).From ≤ (ix p0 (b - 1)).From then
           some (.done (.done ((9 : Int))))
          else
           ck (I64 (b + 1)) (
            some (.next (b + 1)))))))
      else
       some (.done (.next ())))) N 1)
    fun (_s105 : Unit) =>
     some (0)))))
set_option maxHeartbeats 2000000 in
set_option maxRecDepth 20000 in
theorem m_recyclingref53_Check_ok (N : Nat) (w0 : World) (p0 : (List ApiTariff)) (i : Ad) (j l : Nat) (a : RdE w0 5 encApiTariff i p0) (b : SW i j l (List.length p0)) (r : Int) (hr : m_recyclingref53_Check N p0 = some r) :
  Ret Tryz.prog 32 [S i j l] w0 VI H0 r := by
 refine calls_v (n := 57) r hr Tryz.func32 ?_
 unfold m_recyclingref53_Check
 refine sr <| la 1 ((2, I _) :: _) rfl <| nn <| cm_seq <| sr <| la 1 ((5, S _ _ _) :: _) rfl <| vn 6 b rfl <| la 1 ((7, B _) :: _) rfl <| nn <| cc rfl (fun h5 => ?_) (fun h5 => ?_)
 ·exact sr <| la 1 ((2, I _) :: _) rfl <| nn <| cm_ret <| xm_thenR <| xr [] ()
 ·refine sk <| cm_seq <| sr <| la 1 ((8, S _ _ _) :: _) rfl <| vn 9 b rfl <| la 1 ((10, B _) :: _) rfl <| nn <| cc rfl (fun h6 => ?_) (fun h6 => ?_)
  ·exact sr <| la 1 ((2, I _) :: _) rfl <| nn <| cm_ret <| xm_thenR <| xr [] ()
  ·refine sk <| cm_join (σ := Unit) (ξ := Unit) (fun G J => [(0, S i j l)]) (fun G J => []) ?_ ?_
   ·refine sr <| la 1 ((3, I _) :: _) rfl <| nn <| cm_block <| cm_loop (σ := Int) (ξ := Unit) (fun e K => [(0, S i j l), (3, I e)]) (fun e K => []) () ?_ ?_ ?_
    ·exact sq
    ·exact sh []
    intro e K
    refine cm_seq <| sr <| la 2 ((12, S _ _ _) :: (11, I _) :: _) rfl <| vn 13 b rfl <| la 1 ((14, B _) :: _) rfl <| nn <| cc rfl (fun V => ?_) (fun V => ?_)
    ·refine sk <| cm_seq <| cm_block <| cm_seq <| cm_ck (fun x => ?_)
     refine cm_ck (fun m => ?_)
     refine cm_ck (fun o => ?_)
     refine cm_callIf fun L X => cm_cutE [(38, B (((decide ((ix p0 e).From < 0)) || (decide (36524 < (ix p0 e).From))) || (!L)))] ?_ ?_
     ·refine qa 2 ((18, I _) :: (17, S _ _ _) :: _) rfl <| qi 19 5 a b x rfl rfl <| qF 20 rfl <| q_ 21 (fun _ c1 => oL (v := I ((ix p0 e).From)) ((a.old c1).cell0 x.1 x.2 rfl)) <| qd 22 (fun _ _ => op_lss rfl rfl) (fun d => ?_) (fun d => ?_)
      ·exact qa 16 ((38, B true) :: uz 37 6 ((31, B true) :: (30, B true) :: uz 29 6 ((23, B true) :: _))) rfl <| lb 22 rfl (by rw [dt d] <;> rfl)
      ·refine qa 3 ((25, I _) :: (24, S _ _ _) :: (23, B false) :: _) rfl <| q_ 26 (fun _ c1 => oI 5 rfl rfl ((a.old c1).addr (m (by rw [df d] <;> rfl)).1 (m (by rw [df d] <;> rfl)).2) b.2.2 (m (by rw [df d] <;> rfl))) <| qF 27 rfl <| q_ 28 (fun _ c1 => oL (v := I ((ix p0 e).From)) ((a.old c1).cell0 (m (by rw [df d] <;> rfl)).1 (m (by rw [df d] <;> rfl)).2 rfl)) <| qd 29 (fun _ _ => op_gtr rfl rfl) (fun g => ?_) (fun g => ?_)
       ·exact qa 9 ((38, B true) :: uz 37 6 ((31, B true) :: (30, B true) :: _)) rfl <| lb 22 rfl (by rw [df d, dt g] <;> rfl)
       ·exact qa 4 ((33, I _) :: (32, S _ _ _) :: (31, B false) :: (30, B false) :: _) rfl <| q_ 34 (fun _ c1 => oI 5 rfl rfl ((a.old c1).addr (o (by rw [df d, df g] <;> rfl)).1 (o (by rw [df d, df g] <;> rfl)).2) b.2.2 (o (by rw [df d, df g] <;> rfl))) <| q_ 35 (fun _ c1 => oR [I ((ix p0 e).From), I ((ix p0 e).Base), I ((ix p0 e).Empty), I ((ix p0 e).Kilo), I ((ix p0 e).Free)] ((a.old c1).row (o (by rw [df d, df g] <;> rfl)).1 (o (by rw [df d, df g] <;> rfl)).2)) <| qk 36 (fun w1 c1 => m_recyclingref53_Usable_ok N w1 (ix p0 e)  L (X (by rw [df d, df g] <;> rfl))) <| qa 2 ((38, B _) :: (37, B _) :: _) rfl <| lb 22 rfl (by rw [df d, df g] <;> rfl)
     refine xm_next <| cB rfl (fun Y => ?_) (fun Y => ?_)
     ·exact sr <| la 1 ((2, I _) :: _) rfl <| nn <| cm_ret <| xm_inR <| xm_thenR <| xm_lret <| xm_inR <| xm_lret <| xr [] ()
     ·refine cm_skip <| xm_inN <| xm_next <| cm_region <| la 1 ((15, I _) :: _) rfl <| lm_ck (fun Z => ?_)
      exact va 16 Z rfl rfl <| la 1 ((3, I _) :: _) rfl <| lm_nil <| xn () []
    ·exact cm_exit <| xm_thenE <| xm_lexit <| xm_here <| xn () []
   intro G J
   refine cm_join (σ := Unit) (ξ := Unit) (fun y z => []) (fun y z => []) ?_ ?_
   ·refine sr <| la 1 ((4, I _) :: _) rfl <| nn <| cm_block <| cm_loop (σ := Int) (ξ := Unit) (fun f C => [(0, S i j l), (4, I f)]) (fun f C => []) () ?_ ?_ ?_
    ·exact sq
    ·exact sh []
    intro f C
    refine cm_seq <| sr <| la 2 ((40, S _ _ _) :: (39, I _) :: _) rfl <| vn 41 b rfl <| la 1 ((42, B _) :: _) rfl <| nn <| cc rfl (fun M => ?_) (fun M => ?_)
    ·refine sk <| cm_seq <| cm_block <| cm_seq <| cm_ck (fun q => ?_)
     refine cm_ck (fun O => ?_)
     refine cm_ck (fun t => ?_)
     refine cm_drawn [(56, B (decide ((ix p0 f).From ≤ (ix p0 (f - 1)).From)))] (by kernel_rfl) (by kernel_rfl) ?_ ?_
     ·exact qa 2 ((46, I _) :: (45, S _ _ _) :: _) rfl <| qi 47 5 a b q rfl rfl <| qF 48 rfl <| q_ 49 (fun _ c1 => oL (v := I ((ix p0 f).From)) ((a.old c1).cell0 q.1 q.2 rfl)) <| qa 2 ((51, I _) :: (50, S _ _ _) :: _) rfl <| q_ 52 (fun _ _ => op_sub rfl rfl O) <| qi 53 5 a b t rfl rfl <| qF 54 rfl <| q_ 55 (fun _ c1 => oL (v := I ((ix p0 (f - 1)).From)) ((a.old c1).cell0 t.1 t.2 rfl)) <| qa 1 ((56, B _) :: _) rfl <| lq 12
     refine xm_next <| cc rfl (fun Q => ?_) (fun Q => ?_)
     ·exact sr <| la 1 ((2, I _) :: _) rfl <| nn <| cm_ret <| xm_inR <| xm_thenR <| xm_lret <| xm_inR <| xm_lret <| xr [] ()
     ·refine cm_skip <| xm_inN <| xm_next <| cm_region <| la 1 ((43, I _) :: _) rfl <| lm_ck (fun U => ?_)
      exact va 44 U rfl rfl <| la 1 ((4, I _) :: _) rfl <| lm_nil <| xn () []
    ·exact cm_exit <| xm_thenE <| xm_lexit <| xm_here <| xm_lnext () sub_nil (sh [])
   intro y z
   exact sr <| la 1 ((2, I _) :: _) rfl <| nn <| cm_ret <| xr [] ()
/-- recyclingref54.Check -/
def m_recyclingref54_Check (N : Nat) (p0 : ApiAccount) : Option (Int) :=
 Option.bind (m_recyclingref13_Check N p0.Containers (16 : Int) (64 : Int)) fun r6 => (if r6 ≠ 0 then
  some (r6)
 else
  Option.bind (m_recyclingref14_Check N p0.Households (List.length p0.Containers : Int) p0.Assigns) fun r9 => (if r9 ≠ 0 then
   some (r9)
  else
   Option.bind (m_recyclingref18_Check N p0.Emptyings (List.length p0.Containers : Int) (16 : Int)) fun a => (if a ≠ 0 then
    some (a)
   else
    Option.bind (m_recyclingref53_Check N p0.Tariffs) fun b => (if b ≠ 0 then
     some (b)
    else
     (if ((decide (p0.Gap < 0)) || (decide (86400 < p0.Gap))) = true then
      some (1)
     else
      some (0))))))
set_option maxHeartbeats 2000000 in
set_option maxRecDepth 20000 in
theorem m_recyclingref54_Check_ok (N : Nat) (w0 : World) (p0 : ApiAccount) (a : Ad) (i j : Nat) (b : Ad) (l m : Nat) (d : Ad) (o q : Nat) (e : Ad) (t v : Nat) (f : Ad) (x y : Nat) (z : RdE w0 2 encApiHousehold a p0.Households) (C : SW a i j (List.length p0.Households)) (G : RdE w0 5 encApiContainer b p0.Containers) (g : SW b l m (List.length p0.Containers)) (J : RdE w0 4 encApiAssign d p0.Assigns) (K : SW d o q (List.length p0.Assigns)) (L : RdE w0 7 encApiEmptying e p0.Emptyings) (M : SW e t v (List.length p0.Emptyings)) (O : RdE w0 5 encApiTariff f p0.Tariffs) (Q : SW f x y (List.length p0.Tariffs)) (r : Int) (hr : m_recyclingref54_Check N p0 = some r) :
  Ret Tryz.prog 12 [.agg #[S a i j, S b l m, S d o q, S e t v, S f x y, I p0.Gap]] w0 VI H0 r := by
 refine calls_v (n := 47) r hr Tryz.func12 ?_
 unfold m_recyclingref54_Check
 refine sr <| bx 1 [S _ _ _, S _ _ _, S _ _ _, S _ _ _, S _ _ _, I _] rfl fun b5 => la 1 ((2, I _) :: _) rfl <| nn <| cm_seq <| sr <| vf 7 1 1 rfl <| vc 8 0 rfl rfl rfl <| lc 9 (fun r1 hr1 w1 c1 => m_recyclingref13_Check_ok N w1 p0.Containers (16 : Int) (64 : Int) b l m (G.old c1) g r1 hr1) fun r6 u7 => la 1 ((3, I _) :: _) rfl <| nn <| sr <| la 2 ((11, B _) :: (10, I _) :: _) rfl <| nn <| cc rfl (fun h8 => ?_) (fun h8 => ?_)
 ·exact sr <| la 2 ((2, I _) :: (12, I _) :: _) rfl <| nn <| cm_ret <| xm_thenR <| xr [] ()
 ·refine sk <| cm_seq <| sr <| vf 13 0 0 rfl <| vc 14 0 rfl rfl rfl <| vf 15 1 1 rfl <| vc 16 0 rfl rfl rfl <| vn 17 g rfl <| vf 18 2 2 rfl <| vc 19 0 rfl rfl rfl <| lc 20 (fun r1 hr1 w1 c1 => m_recyclingref14_Check_ok N w1 p0.Households (List.length p0.Containers : Int) p0.Assigns a i j d o q (z.old c1) C (J.old c1) K r1 hr1) fun r9 a0 => la 1 ((4, I _) :: _) rfl <| nn <| sr <| la 2 ((22, B _) :: (21, I _) :: _) rfl <| nn <| cc rfl (fun V => ?_) (fun V => ?_)
  ·exact sr <| la 2 ((2, I _) :: (23, I _) :: _) rfl <| nn <| cm_ret <| xm_thenR <| xr [] ()
  ·refine sk <| cm_seq <| sr <| vf 24 3 3 rfl <| vc 25 0 rfl rfl rfl <| vf 26 1 1 rfl <| vc 27 0 rfl rfl rfl <| vn 28 g rfl <| lc 29 (fun r1 hr1 w1 c1 => m_recyclingref18_Check_ok N w1 p0.Emptyings (List.length p0.Containers : Int) (16 : Int) e t v (L.old c1) M r1 hr1) fun a1 a2 => la 1 ((5, I _) :: _) rfl <| nn <| sr <| la 2 ((31, B _) :: (30, I _) :: _) rfl <| nn <| cc rfl (fun X => ?_) (fun X => ?_)
   ·exact sr <| la 2 ((2, I _) :: (32, I _) :: _) rfl <| nn <| cm_ret <| xm_thenR <| xr [] ()
   ·refine sk <| cm_seq <| sr <| vf 33 4 4 rfl <| vc 34 0 rfl rfl rfl <| lc 35 (fun r1 hr1 w1 c1 => m_recyclingref53_Check_ok N w1 p0.Tariffs f x y (O.old c1) Q r1 hr1) fun a3 a4 => la 1 ((6, I _) :: _) rfl <| nn <| sr <| la 2 ((37, B _) :: (36, I _) :: _) rfl <| nn <| cc rfl (fun Y => ?_) (fun Y => ?_)
    ·exact sr <| la 2 ((2, I _) :: (38, I _) :: _) rfl <| nn <| cm_ret <| xm_thenR <| xr [] ()
    ·refine sk <| cm_seq <| cm_seq <| cm_cutE [(46, B ((decide (p0.Gap < 0)) || (decide (86400 < p0.Gap))))] ?_ ?_
     ·refine qf 39 5 5 rfl <| qc 40 0 rfl rfl rfl <| qd 41 (fun _ _ => op_lss rfl rfl) (fun U => ?_) (fun U => ?_)
      ·exact qa 5 ((46, B true) :: uz 45 3 ((42, B true) :: _)) rfl <| lb 8 rfl (by rw [dt U] <;> rfl)
      ·exact qa 1 ((42, B false) :: _) rfl <| qf 43 5 5 rfl <| qc 44 0 rfl rfl rfl <| qa 2 ((46, B _) :: (45, B _) :: _) rfl <| lb 8 rfl (by rw [df U] <;> rfl)
     refine xm_next <| cB rfl (fun Z => ?_) (fun Z => ?_)
     ·exact sr <| la 1 ((2, I _) :: _) rfl <| nn <| cm_ret <| xm_thenR <| xr [] ()
     ·exact sk <| sr <| la 1 ((2, I _) :: _) rfl <| nn <| cm_ret <| xr [] ()
end Go.Proofs.YtbnimhmoffchdaaGreatDoor
