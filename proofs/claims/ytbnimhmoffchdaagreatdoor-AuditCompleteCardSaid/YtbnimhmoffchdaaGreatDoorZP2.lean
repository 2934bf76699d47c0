/- Models of functions, and that the code follows them. Written by deco.py. -/
import Derived.Test.YtbnimhmoffchdaaGreatDoorZP1
namespace Go.Proofs.YtbnimhmoffchdaaGreatDoor
open Go.RowKit
set_option linter.unusedSectionVars false
variable [JF]

/-- ident.letter -/
def m_ident_letter (_N : Nat) (p0 : Int) : Option (Bool) :=
 some ((((decide (97 ≤ p0)) && (decide (p0 ≤ 122))) || ((decide (65 ≤ p0)) && (decide (p0 ≤ 90)))))
set_option maxRecDepth 20000 in
theorem m_ident_letter_ok (N : Nat) (w0 : World) (p0 : Int)   (r : Bool) (hr : m_ident_letter N p0 = some r) :
  Ret Tryz.prog 154 [.int .u8 p0] w0 VB H0 r := by
 refine calls_v (n := 17) r hr Tryz.func154 ?_
 unfold m_ident_letter
 refine sr <| la 1 ((2, B false) :: _) rfl <| nn <| cm_seq <| cm_cutE [(2, B (((decide (97 ≤ p0)) && (decide (p0 ≤ 122))) || ((decide (65 ≤ p0)) && (decide (p0 ≤ 90)))))] ?_ ?_
 ·refine qa 1 ((3, .int .u8 _) :: _) rfl <| qd 4 (fun _ _ => op_geqK rfl rfl) (fun h5 => ?_) (fun h5 => ?_)
  ·refine qa 2 ((6, .int .u8 _) :: (5, B true) :: _) rfl <| qd 7 (fun _ _ => op_leqK rfl rfl) (fun h6 => ?_) (fun h6 => ?_)
   ·exact qa 10 ((2, B true) :: (16, B true) :: uz 15 6 ((9, B true) :: (8, B true) :: _)) rfl <| lb 15 rfl (by rw [dt h5, dt h6] <;> rfl)
   ·refine qa 3 ((10, .int .u8 _) :: (9, B false) :: (8, B false) :: _) rfl <| qd 11 (fun _ _ => op_geqK rfl rfl) (fun h7 => ?_) (fun h7 => ?_)
    ·exact qa 2 ((13, .int .u8 _) :: (12, B true) :: _) rfl <| q_ 14 (fun _ _ => op_leqK rfl rfl) <| qa 3 ((2, B _) :: (16, B _) :: (15, B _) :: _) rfl <| lb 15 rfl (by rw [dt h5, df h6, dt h7] <;> rfl)
    ·exact qa 6 ((2, B false) :: (16, B false) :: (15, B false) :: (14, undef) :: (13, undef) :: (12, B false) :: _) rfl <| lb 15 rfl (by rw [dt h5, df h6, df h7] <;> rfl)
  ·refine qa 6 ((10, .int .u8 _) :: (9, B false) :: (8, B false) :: (7, undef) :: (6, undef) :: (5, B false) :: _) rfl <| qd 11 (fun _ _ => op_geqK rfl rfl) (fun h8 => ?_) (fun h8 => ?_)
   ·exact qa 2 ((13, .int .u8 _) :: (12, B true) :: _) rfl <| q_ 14 (fun _ _ => op_leqK rfl rfl) <| qa 3 ((2, B _) :: (16, B _) :: (15, B _) :: _) rfl <| lb 15 rfl (by rw [df h5, dt h8] <;> rfl)
   ·exact qa 6 ((2, B false) :: (16, B false) :: (15, B false) :: (14, undef) :: (13, undef) :: (12, B false) :: _) rfl <| lb 15 rfl (by rw [df h5, df h8] <;> rfl)
 exact xm_next <| cm_ret <| xr [] ()
/-- ident.Valid -/
def m_ident_Valid (N : Nat) (p0 : ByteArray) : Option (Bool) :=
 ck ((!((decide ((ByteArray.size p0 : Int) < 1)) || (decide (32 < (ByteArray.size p0 : Int))))) = true → (0 : Int) ≤ 0 ∧ 0 < (ByteArray.size p0 : Int)) (
  callIf ((!((decide ((ByteArray.size p0 : Int) < 1)) || (decide (32 < (ByteArray.size p0 : Int))))) = true) (m_ident_letter N (bget p0 (0 : Int))) fun r6 => (if (((decide ((ByteArray.size p0 : Int) < 1)) || (decide (32 < (ByteArray.size p0 : Int)))) || (!r6)) = true then
   some (false)
  else
   (andThen
    (loopM (fun (a : Int) =>
     (if a < (ByteArray.size p0 : Int) then
      ck (0 ≤ a ∧ a < (ByteArray.size p0 : Int)) (
       Option.bind (m_ident_letter N (bget p0 a)) fun b => (if (((((!b) && ((decide ((bget p0 a) < 48)) || (decide (57 < (bget p0 a))))) && (decide ((bget p0 a) ≠ 45))) && (decide ((bget p0 a) ≠ 95))) && (decide ((bget p0 a) ≠ 46))) = true then
        some (.done (.done (false)))
       else
        ck (I64 (a + 1)) (
         some (.next (a + 1)))))
     else
      some (.done (.next ())))) N 1)
   fun (_s56 : Unit) =>
    some (true))))
set_option maxHeartbeats 2000000 in
set_option maxRecDepth 20000 in
theorem m_ident_Valid_ok (N : Nat) (w0 : World) (p0 : ByteArray)   (r : Bool) (hr : m_ident_Valid N p0 = some r) :
  Ret Tryz.prog 139 [.string p0] w0 VB H0 r := by
 refine calls_v (n := 51) r hr Tryz.func139 ?_
 unfold m_ident_Valid
 refine sr <| la 1 ((2, B false) :: _) rfl <| nn <| cm_seq <| cm_seq <| cm_ck (fun h5 => ?_)
 refine cm_callIf fun r6 h7 => cm_cutE [(18, B (((decide ((ByteArray.size p0 : Int) < 1)) || (decide (32 < (ByteArray.size p0 : Int)))) || (!r6)))] ?_ ?_
 ·refine qa 1 ((5, .string _) :: _) rfl <| q_ 6 (fun _ _ => op_lenS rfl (by kernel_rfl)) <| qd 7 (fun _ _ => op_lss rfl rfl) (fun h8 => ?_) (fun h8 => ?_)
  ·exact qa 11 ((18, B true) :: uz 17 4 ((13, B true) :: (12, B true) :: uz 11 3 ((8, B true) :: _))) rfl <| lb 14 rfl (by rw [dt h8] <;> rfl)
  ·refine qa 2 ((9, .string _) :: (8, B false) :: _) rfl <| q_ 10 (fun _ _ => op_lenS rfl (by kernel_rfl)) <| qd 11 (fun _ _ => op_gtr rfl rfl) (fun h9 => ?_) (fun h9 => ?_)
   ·exact qa 7 ((18, B true) :: uz 17 4 ((13, B true) :: (12, B true) :: _)) rfl <| lb 14 rfl (by rw [df h8, dt h9] <;> rfl)
   ·exact qa 3 ((14, .string _) :: (13, B false) :: (12, B false) :: _) rfl <| q_ 15 (fun _ _ => op_indexS rfl rfl (by kernel_rfl) (h5 (by rw [df h8, df h9] <;> rfl)).1 (h5 (by rw [df h8, df h9] <;> rfl)).2) <| qk 16 (fun w1 c1 => m_ident_letter_ok N w1 (bget p0 (0 : Int))  r6 (h7 (by rw [df h8, df h9] <;> rfl))) <| qa 2 ((18, B _) :: (17, B _) :: _) rfl <| lb 14 rfl (by rw [df h8, df h9] <;> rfl)
 refine xm_next <| cB rfl (fun y => ?_) (fun y => ?_)
 ·exact sr <| la 1 ((2, B false) :: _) rfl <| nn <| cm_ret <| xm_thenR <| xr [] ()
 ·refine sk <| cm_join (σ := Unit) (ξ := Unit) (fun l m => []) (fun l m => []) ?_ ?_
  ·refine sr <| la 1 ((3, I _) :: _) rfl <| nn <| cm_block <| cm_loop (σ := Int) (ξ := Unit) (fun a o => [(0, .string p0), (3, I a)]) (fun a o => []) () ?_ ?_ ?_
   ·exact sq
   ·exact sh []
   intro a o
   refine cm_seq <| sr <| la 2 ((20, .string _) :: (19, I _) :: _) rfl <| v_ 21 (fun _ _ => op_lenS rfl (by kernel_rfl)) <| la 1 ((22, B _) :: _) rfl <| nn <| cc rfl (fun z => ?_) (fun z => ?_)
   ·refine sk <| cm_seq <| cm_block <| sr <| la 2 ((26, I _) :: (25, .string _) :: _) rfl <| lm_ck (fun q => ?_)
    refine v_ 27 (fun _ _ => op_indexS rfl rfl (by kernel_rfl) q.1 q.2) <| la 1 ((4, .int .u8 _) :: _) rfl <| nn <| cm_seq <| cm_bind fun t C => cm_cutE [(50, B (((((!t) && ((decide ((bget p0 a) < 48)) || (decide (57 < (bget p0 a))))) && (decide ((bget p0 a) ≠ 45))) && (decide ((bget p0 a) ≠ 95))) && (decide ((bget p0 a) ≠ 46))))] ?_ ?_
    ·refine qa 1 ((28, .int .u8 _) :: _) rfl <| qkb 29 (fun w1 c1 => m_ident_letter_ok N w1 (bget p0 a)  t C) (fun b => ?_) (fun b => ?_)
     ·exact qa 21 ((50, B false) :: (49, undef) :: (48, undef) :: (47, B false) :: (46, B false) :: (45, undef) :: (44, undef) :: (43, B false) :: (42, B false) :: (41, undef) :: (40, undef) :: (39, B false) :: (38, B false) :: uz 37 6 ((31, B false) :: (30, B false) :: _)) rfl <| lb 23 rfl (by rw [b] <;> rfl)
     ·refine qa 3 ((32, .int .u8 _) :: (31, B true) :: (30, B true) :: _) rfl <| qd 33 (fun _ _ => op_lssK rfl rfl) (fun d => ?_) (fun d => ?_)
      ·refine qa 7 ((40, .int .u8 _) :: (39, B true) :: (38, B true) :: (37, B true) :: (36, undef) :: (35, undef) :: (34, B true) :: _) rfl <| qd 41 (fun _ _ => op_neqK rfl rfl) (fun g => ?_) (fun g => ?_)
       ·refine qa 3 ((44, .int .u8 _) :: (43, B true) :: (42, B true) :: _) rfl <| qd 45 (fun _ _ => op_neqK rfl rfl) (fun j => ?_) (fun j => ?_)
        ·exact qa 3 ((48, .int .u8 _) :: (47, B true) :: (46, B true) :: _) rfl <| q_ 49 (fun _ _ => op_neqK rfl rfl) <| qa 1 ((50, B _) :: _) rfl <| lb 23 rfl (by rw [b, dt d, dt g, dt j] <;> rfl)
        ·exact qa 5 ((50, B false) :: (49, undef) :: (48, undef) :: (47, B false) :: (46, B false) :: _) rfl <| lb 23 rfl (by rw [b, dt d, dt g, df j] <;> rfl)
       ·exact qa 9 ((50, B false) :: (49, undef) :: (48, undef) :: (47, B false) :: (46, B false) :: (45, undef) :: (44, undef) :: (43, B false) :: (42, B false) :: _) rfl <| lb 23 rfl (by rw [b, dt d, df g] <;> rfl)
      ·refine qa 2 ((35, .int .u8 _) :: (34, B false) :: _) rfl <| qd 36 (fun _ _ => op_gtrK rfl rfl) (fun e => ?_) (fun e => ?_)
       ·refine qa 4 ((40, .int .u8 _) :: (39, B true) :: (38, B true) :: (37, B true) :: _) rfl <| qd 41 (fun _ _ => op_neqK rfl rfl) (fun i => ?_) (fun i => ?_)
        ·refine qa 3 ((44, .int .u8 _) :: (43, B true) :: (42, B true) :: _) rfl <| qd 45 (fun _ _ => op_neqK rfl rfl) (fun f => ?_) (fun f => ?_)
         ·exact qa 3 ((48, .int .u8 _) :: (47, B true) :: (46, B true) :: _) rfl <| q_ 49 (fun _ _ => op_neqK rfl rfl) <| qa 1 ((50, B _) :: _) rfl <| lb 23 rfl (by rw [b, df d, dt e, dt i, dt f] <;> rfl)
         ·exact qa 5 ((50, B false) :: (49, undef) :: (48, undef) :: (47, B false) :: (46, B false) :: _) rfl <| lb 23 rfl (by rw [b, df d, dt e, dt i, df f] <;> rfl)
        ·exact qa 9 ((50, B false) :: (49, undef) :: (48, undef) :: (47, B false) :: (46, B false) :: (45, undef) :: (44, undef) :: (43, B false) :: (42, B false) :: _) rfl <| lb 23 rfl (by rw [b, df d, dt e, df i] <;> rfl)
       ·exact qa 14 ((50, B false) :: (49, undef) :: (48, undef) :: (47, B false) :: (46, B false) :: (45, undef) :: (44, undef) :: (43, B false) :: (42, B false) :: (41, undef) :: (40, undef) :: (39, B false) :: (38, B false) :: (37, B false) :: _) rfl <| lb 23 rfl (by rw [b, df d, df e] <;> rfl)
    refine xm_next <| cB rfl (fun v => ?_) (fun v => ?_)
    ·exact sr <| la 1 ((2, B false) :: _) rfl <| nn <| cm_ret <| xm_inR <| xm_thenR <| xm_lret <| xm_inR <| xm_lret <| xr [] ()
    ·refine cm_skip <| xm_inN <| xm_next <| cm_region <| la 1 ((23, I _) :: _) rfl <| lm_ck (fun x => ?_)
     exact va 24 x rfl rfl <| la 1 ((3, I _) :: _) rfl <| lm_nil <| xn () []
   ·exact cm_exit <| xm_thenE <| xm_lexit <| xm_here <| xm_lnext () sub_nil (sh [])
  intro l m
  exact sr <| la 1 ((2, B true) :: _) rfl <| nn <| cm_ret <| xr [] ()
/-- container.check -/
def m_container_check (N : Nat) (p0 : ApiContainer) (p1 : Int) (p2 : Int) : Option (Int) :=
 Option.bind (m_ident_Valid N p0.ID) fun r6 => (if (!r6) = true then
  some (5)
 else
  (if ((decide (p0.Kind < 0)) || (decide (p1 ≤ p0.Kind))) = true then
   some (21)
  else
   (if ((((decide (p0.Litres < 1)) || (decide (40000 < p0.Litres))) || (decide (p0.Grams < 1))) || (decide (1073741824 < p0.Grams))) = true then
    some (1)
   else
    (if ((decide (p0.Node < 0)) || (decide (p2 ≤ p0.Node))) = true then
     some (7)
    else
     some (0)))))
set_option maxHeartbeats 2000000 in
set_option maxRecDepth 20000 in
theorem m_container_check_ok (N : Nat) (w0 : World) (p0 : ApiContainer) (p1 p2 : Int)   (r : Int) (hr : m_container_check N p0 p1 p2 = some r) :
  Ret Tryz.prog 105 [.agg #[.string p0.ID, I p0.Kind, I p0.Litres, I p0.Grams, I p0.Node], I p1, I p2] w0 VI H0 r := by
 refine calls_v (n := 51) r hr Tryz.func105 ?_
 unfold m_container_check
 refine sr <| bx 3 [.string _, I _, I _, I _, I _] rfl fun b5 => la 1 ((6, I _) :: _) rfl <| nn <| cm_seq <| cm_block <| sr <| vf 8 0 0 rfl <| vc 9 0 rfl rfl rfl <| lc 10 (fun r1 hr1 w1 c1 => m_ident_Valid_ok N w1 p0.ID  r1 hr1) fun r6 u7 => la 2 ((7, B _) :: (11, B _) :: _) rfl <| nn <| cB rfl (fun h8 => ?_) (fun h8 => ?_)
 ·exact sr <| la 1 ((6, I _) :: _) rfl <| nn <| cm_ret <| xm_inR <| xm_thenR <| xr [] ()
 ·refine cm_seq <| cm_cutE [(12, B ((decide (p0.Kind < 0)) || (decide (p1 ≤ p0.Kind))))] ?_ ?_
  ·refine qf 13 1 1 rfl <| qc 14 0 rfl rfl rfl <| qd 15 (fun _ _ => op_lss rfl rfl) (fun h9 => ?_) (fun h9 => ?_)
   ·exact qa 7 ((12, B true) :: (21, B true) :: uz 20 4 ((16, B true) :: _)) rfl <| lb 10 rfl (by rw [dt h9] <;> rfl)
   ·exact qa 1 ((16, B false) :: _) rfl <| qf 17 1 1 rfl <| qc 18 0 rfl rfl rfl <| qa 4 ((12, B _) :: (21, B _) :: (20, B _) :: (19, I _) :: _) rfl <| lb 10 rfl (by rw [df h9] <;> rfl)
  refine xm_next <| cB rfl (fun f => ?_) (fun f => ?_)
  ·exact sr <| la 1 ((6, I _) :: _) rfl <| nn <| cm_ret <| xm_inR <| xm_thenR <| xr [] ()
  ·refine cm_seq <| cm_cutE [(22, B ((((decide (p0.Litres < 1)) || (decide (40000 < p0.Litres))) || (decide (p0.Grams < 1))) || (decide (1073741824 < p0.Grams))))] ?_ ?_
   ·refine qf 23 2 2 rfl <| qc 24 0 rfl rfl rfl <| qd 25 (fun _ _ => op_lss rfl rfl) (fun a => ?_) (fun a => ?_)
    ·exact qa 16 ((22, B true) :: (40, B true) :: uz 39 3 ((36, B true) :: (35, B true) :: uz 34 3 ((31, B true) :: (30, B true) :: uz 29 3 ((26, B true) :: _)))) rfl <| lb 19 rfl (by rw [dt a] <;> rfl)
    ·refine qa 1 ((26, B false) :: _) rfl <| qf 27 2 2 rfl <| qc 28 0 rfl rfl rfl <| qd 29 (fun _ _ => op_gtr rfl rfl) (fun b => ?_) (fun b => ?_)
     ·exact qa 12 ((22, B true) :: (40, B true) :: uz 39 3 ((36, B true) :: (35, B true) :: uz 34 3 ((31, B true) :: (30, B true) :: _))) rfl <| lb 19 rfl (by rw [df a, dt b] <;> rfl)
     ·refine qa 2 ((31, B false) :: (30, B false) :: _) rfl <| qf 32 3 3 rfl <| qc 33 0 rfl rfl rfl <| qd 34 (fun _ _ => op_lss rfl rfl) (fun d => ?_) (fun d => ?_)
      ·exact qa 7 ((22, B true) :: (40, B true) :: uz 39 3 ((36, B true) :: (35, B true) :: _)) rfl <| lb 19 rfl (by rw [df a, df b, dt d] <;> rfl)
      ·exact qa 2 ((36, B false) :: (35, B false) :: _) rfl <| qf 37 3 3 rfl <| qc 38 0 rfl rfl rfl <| qa 3 ((22, B _) :: (40, B _) :: (39, B _) :: _) rfl <| lb 19 rfl (by rw [df a, df b, df d] <;> rfl)
   refine xm_next <| cB rfl (fun g => ?_) (fun g => ?_)
   ·exact sr <| la 1 ((6, I _) :: _) rfl <| nn <| cm_ret <| xm_inR <| xm_thenR <| xr [] ()
   ·refine cm_seq <| cm_cutE [(41, B ((decide (p0.Node < 0)) || (decide (p2 ≤ p0.Node))))] ?_ ?_
    ·refine qf 42 4 4 rfl <| qc 43 0 rfl rfl rfl <| qd 44 (fun _ _ => op_lss rfl rfl) (fun e => ?_) (fun e => ?_)
     ·exact qa 7 ((41, B true) :: (50, B true) :: uz 49 4 ((45, B true) :: _)) rfl <| lb 10 rfl (by rw [dt e] <;> rfl)
     ·exact qa 1 ((45, B false) :: _) rfl <| qf 46 4 4 rfl <| qc 47 0 rfl rfl rfl <| qa 4 ((41, B _) :: (50, B _) :: (49, B _) :: (48, I _) :: _) rfl <| lb 10 rfl (by rw [df e] <;> rfl)
    refine xm_next <| cB rfl (fun i => ?_) (fun i => ?_)
    ·exact sr <| la 1 ((6, I _) :: _) rfl <| nn <| cm_ret <| xm_inR <| xm_thenR <| xr [] ()
    ·exact cm_skip <| xm_inN <| xm_next <| sr <| la 1 ((6, I _) :: _) rfl <| nn <| cm_ret <| xr [] ()
/-- container.Check -/
def m_container_Check (N : Nat) (p0 : (List ApiContainer)) (p1 : Int) (p2 : Int) : Option (Int) :=
 (if 256 < (List.length p0 : Int) then
  some (8)
 else
  (andThen
   (loopM (fun (b : Int) =>
    (if b < (List.length p0 : Int) then
     ck (0 ≤ b ∧ b < (List.length p0 : Int)) (
      Option.bind (m_container_check N (ix p0 b) p1 p2) fun d => (if d ≠ 0 then
       some (.done (.done (d)))
      else
       ck (I64 (b + 1)) (
        some (.next (b + 1)))))
    else
     some (.done (.next ())))) N 0)
  fun (_s33 : Unit) =>
   (andThen
    (loopM (fun (a : (List (ByteArray × Bool)) × Int) =>
     (if a.2 < (List.length p0 : Int) then
      ck (0 ≤ a.2 ∧ a.2 < (List.length p0 : Int)) (
       ck (ByteArray.size ((ix p0 a.2).ID) ≤ 9223372036854775807) (
        (if (Option.getD (mget a.1 ((ix p0 a.2).ID)) false) = true then
         some (.done (.done ((6 : Int))))
        else
         ck (ByteArray.size ((ix p0 a.2).ID) ≤ 9223372036854775807) (
          ck (I64 (a.2 + 1)) (
           some (.next ((mput a.1 ((ix p0 a.2).ID) true), (a.2 + 1))))))))
     else
      some (.done (.next ())))) N (([] : (List (ByteArray × Bool))), (0 : Int)))
   fun (_s90 : Unit) =>
    some (0))))
set_option maxHeartbeats 2000000 in
set_option maxRecDepth 20000 in
theorem m_container_Check_ok (N : Nat) (w0 : World) (p0 : (List ApiContainer)) (p1 p2 : Int) (d : Ad) (f g : Nat) (i : RdE w0 5 encApiContainer d p0) (e : SW d f g (List.length p0)) (r : Int) (hr : m_container_Check N p0 p1 p2 = some r) :
  Ret Tryz.prog 54 [S d f g, I p1, I p2] w0 VI H0 r := by
 refine calls_v (n := 45) r hr Tryz.func54 ?_
 unfold m_container_Check
 refine sr <| la 1 ((6, I _) :: _) rfl <| nn <| cm_seq <| sr <| la 1 ((13, S _ _ _) :: _) rfl <| vn 14 e rfl <| la 1 ((15, B _) :: _) rfl <| nn <| cc rfl (fun h5 => ?_) (fun h5 => ?_)
 ·exact sr <| la 1 ((6, I _) :: _) rfl <| nn <| cm_ret <| xm_thenR <| xr [] ()
 ·refine sk <| cm_join (σ := Unit) (ξ := Unit) (fun q t => [(0, S d f g)]) (fun q t => []) ?_ ?_
  ·refine sr <| la 1 ((16, S _ _ _) :: _) rfl <| vn 17 e rfl <| la 1 ((18, I _) :: _) rfl <| nn <| cm_block <| cm_loop (σ := Int) (ξ := Unit) (fun j x => [(0, S d f g), (1, I p1), (2, I p2), (16, S d f g), (17, I (List.length p0 : Int)), (18, I j)]) (fun j x => []) () ?_ ?_ ?_
   ·exact sq
   ·exact sh []
   intro j x
   refine sr <| la 1 ((19, B _) :: _) rfl <| nn <| cm_seq <| cc rfl (fun U => ?_) (fun U => ?_)
   ·refine sk <| cm_seq <| cm_block <| sr <| lm_ck (fun z => ?_)
    refine vi 20 5 i e z rfl rfl <| vr 21 i z rfl <| lm_alloc 8 [.string (⟨#[]⟩ : ByteArray), I 0, I 0, I 0, I 0] (v := .agg #[.string (⟨#[]⟩ : ByteArray), I 0, I 0, I 0, I 0]) (by kernel_rfl) (by kernel_rfl) rfl fun Z => sA 0 [.string _, I _, I _, I _, I _] [_, _, _, _, _] (H' := [blkE _ _ [_, _, _, _, _]]) rfl rfl rfl rfl rfl rfl <| nn <| sr <| vR 22 [.string _, I _, I _, I _, I _] 0 rfl rfl rfl <| la 2 ((24, I _) :: (23, I _) :: _) rfl <| lc 25 (fun r1 hr1 w1 c1 => m_container_check_ok N w1 (ix p0 j) p1 p2  r1 hr1) fun a0 a1 => la 1 ((9, I _) :: _) rfl <| nn <| sr <| la 2 ((27, B _) :: (26, I _) :: _) rfl <| nn <| cc rfl (fun V => ?_) (fun V => ?_)
    ·exact sr <| la 2 ((6, I _) :: (28, I _) :: _) rfl <| nn <| cm_ret <| xm_inR <| xm_thenR <| xm_lret <| xm_inR <| xm_lret <| xr [] ()
    ·refine cm_skip <| xm_inN <| xm_next <| cm_region <| lm_ck (fun X => ?_)
     exact va 29 X rfl rfl <| la 1 ((18, I _) :: _) rfl <| lm_nil <| xn () []
   ·exact cm_exit <| xm_thenE <| xm_lexit <| xm_here <| xn () []
  intro q t
  refine sr <| lm_makeMap (κ := ByteArray) (α := Bool) 30 9 Value.string B (by kernel_rfl) fun C => la 1 ((10, .map (some _)) :: _) rfl <| nn <| cm_join (σ := Unit) (ξ := Unit) (fun G J => []) (fun G J => []) ?_ ?_
  ·refine sr <| la 1 ((31, S _ _ _) :: _) rfl <| vn 32 e rfl <| la 1 ((33, I _) :: _) rfl <| nn <| cm_block <| cm_loop (σ := (List (ByteArray × Bool)) × Int) (ξ := Unit) (fun b m => [(10, .map (some C)), (31, S d f g), (32, I (List.length p0 : Int)), (33, I b.2)]) (fun b m => [mapE Tryz.prog 9 Value.string B C b.1]) () ?_ ?_ ?_
   ·exact sq
   ·exact sh [0]
   intro b m
   refine sr <| la 1 ((34, B _) :: _) rfl <| nn <| cm_seq <| cc rfl (fun K => ?_) (fun K => ?_)
   ·refine sk <| cm_seq <| cm_block <| sr <| lm_ck (fun o => ?_)
    refine vi 35 5 i e o rfl rfl <| vr 36 i o rfl <| lm_alloc 12 [.string (⟨#[]⟩ : ByteArray), I 0, I 0, I 0, I 0] (v := .agg #[.string (⟨#[]⟩ : ByteArray), I 0, I 0, I 0, I 0]) (by kernel_rfl) (by kernel_rfl) rfl fun Y => sA 0 [.string _, I _, I _, I _, I _] [_, _, _, _, _] (H' := [blkE _ _ [_, _, _, _, _], _]) rfl rfl rfl rfl rfl rfl <| nn <| cm_seq <| sr <| la 1 ((37, .map (some _)) :: _) rfl <| vf 38 0 0 rfl <| vc 39 0 rfl rfl rfl <| lm_ck (fun L => ?_)
    refine v_ 40 (fun _ c1 => op_lookup (κ := ByteArray) (α := Bool) (ek := Value.string) (ev := Value.bool) (l := b.1) (y := ((ix p0 b.2).ID)) false rfl rfl (Maps.string_keyed Tryz.underlying9) ek_str (key_str Tryz.underlying9 L) Tryz.underlying170 rfl (c1.map 1 rfl)) <| nn <| cB rfl (fun M => ?_) (fun M => ?_)
    ·exact sr <| la 1 ((6, I _) :: _) rfl <| nn <| cm_ret <| xm_thenR <| xm_inR <| xm_thenR <| xm_lret <| xm_inR <| xm_lret <| xr [] ()
    ·refine sk <| cm_region <| la 1 ((41, .map (some _)) :: _) rfl <| vf 42 0 0 rfl <| vc 43 0 rfl rfl rfl <| lm_ck (fun O => ?_)
     refine lm_mapUpdate 1 (κ := ByteArray) (α := Bool) (ek := Value.string) (ev := Value.bool) (l := b.1) (y := ((ix p0 b.2).ID)) (a := true) (by kernel_rfl) rfl rfl rfl (Maps.string_keyed Tryz.underlying9) ek_str (key_str Tryz.underlying9 O) Tryz.underlying170 rfl rfl <| lm_nil <| xm_inN <| xm_next <| cm_region <| lm_ck (fun Q => ?_)
     exact va 44 Q rfl rfl <| la 1 ((33, I _) :: _) rfl <| lm_nil <| xn () [1]
   ·exact cm_exit <| xm_thenE <| xm_lexit <| xm_here <| xm_lnext () sub_nil (sh [])
  intro G J
  exact sr <| la 1 ((6, I _) :: _) rfl <| nn <| cm_ret <| xr [] ()
/-- household.people$1 -/
def m_household_people_1 (_N : Nat) (p0 : ApiHousehold) (q0 : ApiHousehold) : Option (Bool) :=
 some ((decide (p0.ID = q0.ID)))
set_option maxRecDepth 20000 in
theorem m_household_people_1_ok (N : Nat) (w0 : World) (p0 : ApiHousehold) (q0 : ApiHousehold) (a : Nat) (b : Blk w0 a 131 [.string q0.ID, I q0.Persons]) (r : Bool) (hr : m_household_people_1 N p0 q0 = some r) :
  Ret Tryz.prog 141 [.agg #[.string p0.ID, I p0.Persons], .pointer (some ⟨a, 0, none⟩)] w0 VB H0 r := by
 refine calls_v (n := 9) r hr Tryz.func141 ?_
 unfold m_household_people_1
 exact sr <| bx 2 [.string _, I _] rfl fun b5 => la 1 ((3, B false) :: _) rfl <| nn <| sr <| vf 4 0 0 rfl <| vc 5 0 rfl rfl rfl <| vf 6 0 0 rfl <| v_ 7 (fun _ c1 => oL (c1.ocell (b.at_ 0 (u := .string _) rfl))) <| v_ 8 (fun _ _ => op_eqlS rfl rfl) <| la 1 ((3, B _) :: _) rfl <| nn <| cm_ret <| xr [] ()
/-- slices.IndexFunc -/
def m_slices_IndexFunc_household_people_1 (N : Nat) (p0 : (List ApiHousehold)) (p1c0 : ApiHousehold) : Option (Int) :=
 (andThen
  (loopM (fun (a : Int) =>
   (if a < (List.length p0 : Int) then
    ck (0 ≤ a ∧ a < (List.length p0 : Int)) (
     Option.bind (m_household_people_1 N (ix p0 a) p1c0) fun b => (if b = true then
      some (.done (.done (a)))
     else
      ck (I64 (a + 1)) (
       some (.next (a + 1)))))
   else
    some (.done (.next ())))) N 0)
 fun (_s29 : Unit) =>
  some ((-1 : Int)))
set_option maxRecDepth 20000 in
theorem m_slices_IndexFunc_household_people_1_ok (N : Nat) (w0 : World) (p0 : (List ApiHousehold)) (p1c0 : ApiHousehold) (b : Ad) (d e a : Nat) (f : RdE w0 2 encApiHousehold b p0) (g : SW b d e (List.length p0)) (j : Blk w0 a 131 [.string p1c0.ID, I p1c0.Persons]) (r : Int) (hr : m_slices_IndexFunc_household_people_1 N p0 p1c0 = some r) :
  Ret Tryz.prog 155 [S b d e, .func (.func 141) #[] #[.pointer (some ⟨a, 0, none⟩)]] w0 VI H0 r := by
 refine calls_v (n := 19) r hr Tryz.func155 ?_
 unfold m_slices_IndexFunc_household_people_1
 refine sr <| la 1 ((4, I _) :: _) rfl <| nn <| cm_join (σ := Unit) (ξ := Unit) (fun l m => []) (fun l m => []) ?_ ?_
 ·refine sr <| la 1 ((6, S _ _ _) :: _) rfl <| vn 7 g rfl <| la 1 ((8, I _) :: _) rfl <| nn <| cm_block <| cm_loop (σ := Int) (ξ := Unit) (fun i o => [(0, S b d e), (1, .func (.func 141) #[] #[.pointer (some ⟨a, 0, none⟩)]), (7, I (List.length p0 : Int)), (8, I i)]) (fun i o => []) () ?_ ?_ ?_
  ·exact sq
  ·exact sh []
  intro i o
  refine sr <| la 1 ((9, B _) :: _) rfl <| nn <| cm_seq <| cc rfl (fun t => ?_) (fun t => ?_)
  ·refine sk <| cm_seq <| cm_block <| sr <| la 2 ((5, I _) :: (10, I _) :: _) rfl <| nn <| sr <| la 3 ((13, I _) :: (12, S _ _ _) :: (11, .func _ _ _) :: _) rfl <| lm_ck (fun q => ?_)
   refine vi 14 2 f g q rfl rfl <| vr 15 f q rfl <| lm_call 16 (V := VB) (HR := H0) (by kernel_rfl) (fun w1 => op_callv rfl (by kernel_rfl)) (fun r1 hr1 w1 c1 => m_household_people_1_ok N w1 (ix p0 i) p1c0 a (c1.oblk j) r1 hr1) fun y z => nn <| cB rfl (fun v => ?_) (fun v => ?_)
   ·exact sr <| la 2 ((4, I _) :: (17, I _) :: _) rfl <| nn <| cm_ret <| xm_inR <| xm_thenR <| xm_lret <| xm_inR <| xm_lret <| xr [] ()
   ·refine cm_skip <| xm_inN <| xm_next <| cm_region <| lm_ck (fun x => ?_)
    exact va 18 x rfl rfl <| la 1 ((8, I _) :: _) rfl <| lm_nil <| xn () []
  ·exact cm_exit <| xm_thenE <| xm_lexit <| xm_here <| xm_lnext () sub_nil (sh [])
 intro l m
 exact sr <| la 1 ((4, I _) :: _) rfl <| nn <| cm_ret <| xr [] ()
/-- slices.ContainsFunc -/
def m_slices_ContainsFunc_household_people_1 (N : Nat) (p0 : (List ApiHousehold)) (p1c0 : ApiHousehold) : Option (Bool) :=
 Option.bind (m_slices_IndexFunc_household_people_1 N p0 p1c0) fun r5 => some ((decide (0 ≤ r5)))
set_option maxRecDepth 20000 in
theorem m_slices_ContainsFunc_household_people_1_ok (N : Nat) (w0 : World) (p0 : (List ApiHousehold)) (p1c0 : ApiHousehold) (b : Ad) (d e a : Nat) (g : RdE w0 2 encApiHousehold b p0) (i : SW b d e (List.length p0)) (f : Blk w0 a 131 [.string p1c0.ID, I p1c0.Persons]) (r : Bool) (hr : m_slices_ContainsFunc_household_people_1 N p0 p1c0 = some r) :
  Ret Tryz.prog 140 [S b d e, .func (.func 141) #[] #[.pointer (some ⟨a, 0, none⟩)]] w0 VB H0 r := by
 refine calls_v (n := 9) r hr Tryz.func140 ?_
 unfold m_slices_ContainsFunc_household_people_1
 exact sr <| la 1 ((4, B false) :: _) rfl <| nn <| sr <| la 2 ((6, .func _ _ _) :: (5, S _ _ _) :: _) rfl <| lc 7 (fun r1 hr1 w1 c1 => m_slices_IndexFunc_household_people_1_ok N w1 p0 p1c0 b d e a (g.old c1) i (c1.oblk f) r1 hr1) fun r5 u6 => la 2 ((4, B _) :: (8, B _) :: _) rfl <| nn <| cm_ret <| xr [] ()
/-- household.people -/
def m_household_people (N : Nat) (p0 : (List ApiHousehold)) : Option (Int) :=
 (if 256 < (List.length p0 : Int) then
  some (8)
 else
  (andThen
   (loopM (fun (b : Int) =>
    (if b < (List.length p0 : Int) then
     ck (0 ≤ b ∧ b < (List.length p0 : Int)) (
      Option.bind (m_ident_Valid N ((ix p0 b).ID)) fun e => (if (!e) = true then
       some (.done (.done ((5 : Int))))
      else
       (if ((decide ((ix p0 b).Persons < 1)) || (decide (100 < (ix p0 b).Persons))) = true then
        some (.done (.done ((1 : Int))))
       else
        ck (I64 (b + 1)) (
         some (.next (b + 1))))))
    else
     some (.done (.next ())))) N 0)
  fun (_s39 : Unit) =>
   (andThen
    (loopM (fun (a : Int) =>
     (if a < (List.length p0 : Int) then
      ck (0 ≤ a ∧ a < (List.length p0 : Int)) (
       ck (0 ≤ a ∧ a ≤ (List.length p0 : Int)) (
        Option.bind (m_slices_ContainsFunc_household_people_1 N (List.take (Int.toNat a) p0) (ix p0 a)) fun d => (if d = true then
         some (.done (.done ((6 : Int))))
        else
         ck (I64 (a + 1)) (
          some (.next (a + 1))))))
     else
      some (.done (.next ())))) N 0)
   fun (_s104 : Unit) =>
    some (0))))
set_option maxHeartbeats 2000000 in
set_option maxRecDepth 20000 in
theorem m_household_people_ok (N : Nat) (w0 : World) (p0 : (List ApiHousehold)) (a : Ad) (e d : Nat) (f : RdE w0 2 encApiHousehold a p0) (b : SW a e d (List.length p0)) (r : Int) (hr : m_household_people N p0 = some r) :
  Ret Tryz.prog 106 [S a e d] w0 VI H0 r := by
 refine calls_v (n := 42) r hr Tryz.func106 ?_
 unfold m_household_people
 refine sr <| la 1 ((2, I _) :: _) rfl <| nn <| cm_seq <| sr <| la 1 ((7, S _ _ _) :: _) rfl <| vn 8 b rfl <| la 1 ((9, B _) :: _) rfl <| nn <| cc rfl (fun h5 => ?_) (fun h5 => ?_)
 ·exact sr <| la 1 ((2, I _) :: _) rfl <| nn <| cm_ret <| xm_thenR <| xr [] ()
 ·refine sk <| cm_join (σ := Unit) (ξ := Unit) (fun y z => [(0, S a e d)]) (fun y z => []) ?_ ?_
  ·refine sr <| la 1 ((10, S _ _ _) :: _) rfl <| vn 11 b rfl <| la 1 ((12, I _) :: _) rfl <| nn <| cm_block <| cm_loop (σ := Int) (ξ := Unit) (fun j C => [(0, S a e d), (10, S a e d), (11, I (List.length p0 : Int)), (12, I j)]) (fun j C => []) () ?_ ?_ ?_
   ·exact sq
   ·exact sh []
   intro j C
   refine sr <| la 1 ((13, B _) :: _) rfl <| nn <| cm_seq <| cc rfl (fun O => ?_) (fun O => ?_)
   ·refine sk <| cm_seq <| cm_block <| sr <| lm_ck (fun G => ?_)
    refine vi 14 2 f b G rfl rfl <| vr 15 f G rfl <| lm_alloc 4 [.string (⟨#[]⟩ : ByteArray), I 0] (v := .agg #[.string (⟨#[]⟩ : ByteArray), I 0]) (by kernel_rfl) (by kernel_rfl) rfl fun Z => sA 0 [.string _, I _] [_, _] (H' := [blkE _ _ [_, _]]) rfl rfl rfl rfl rfl rfl <| nn <| cm_seq <| sr <| vf 16 0 0 rfl <| vc 17 0 rfl rfl rfl <| lc 18 (fun r1 hr1 w1 c1 => m_ident_Valid_ok N w1 ((ix p0 j).ID)  r1 hr1) fun a0 a1 => la 1 ((19, B _) :: _) rfl <| nn <| cB rfl (fun Q => ?_) (fun Q => ?_)
    ·exact sr <| la 1 ((2, I _) :: _) rfl <| nn <| cm_ret <| xm_thenR <| xm_inR <| xm_thenR <| xm_lret <| xm_inR <| xm_lret <| xr [] ()
    ·refine sk <| cm_seq <| cm_cutE [(27, B ((decide ((ix p0 j).Persons < 1)) || (decide (100 < (ix p0 j).Persons))))] ?_ ?_
     ·refine qf 20 1 1 rfl <| qc 21 0 rfl rfl rfl <| qd 22 (fun _ _ => op_lss rfl rfl) (fun m => ?_) (fun m => ?_)
      ·exact qa 5 ((27, B true) :: uz 26 3 ((23, B true) :: _)) rfl <| lb 8 rfl (by rw [dt m] <;> rfl)
      ·exact qa 1 ((23, B false) :: _) rfl <| qf 24 1 1 rfl <| qc 25 0 rfl rfl rfl <| qa 2 ((27, B _) :: (26, B _) :: _) rfl <| lb 8 rfl (by rw [df m] <;> rfl)
     refine xm_next <| cB rfl (fun U => ?_) (fun U => ?_)
     ·exact sr <| la 1 ((2, I _) :: _) rfl <| nn <| cm_ret <| xm_inR <| xm_thenR <| xm_lret <| xm_inR <| xm_lret <| xr [] ()
     ·refine cm_skip <| xm_inN <| xm_next <| cm_region <| lm_ck (fun V => ?_)
      exact va 28 V rfl rfl <| la 1 ((12, I _) :: _) rfl <| lm_nil <| xn () []
   ·exact cm_exit <| xm_thenE <| xm_lexit <| xm_here <| xn () []
  intro y z
  refine cm_join (σ := Unit) (ξ := Unit) (fun o q => []) (fun o q => []) ?_ ?_
  ·refine sr <| la 1 ((29, S _ _ _) :: _) rfl <| vn 30 b rfl <| la 1 ((31, I _) :: _) rfl <| nn <| cm_block <| cm_loop (σ := Int) (ξ := Unit) (fun g t => [(0, S a e d), (29, S a e d), (30, I (List.length p0 : Int)), (31, I g)]) (fun g t => []) () ?_ ?_ ?_
   ·exact sq
   ·exact sh []
   intro g t
   refine sr <| la 1 ((32, B _) :: _) rfl <| nn <| cm_seq <| cc rfl (fun J => ?_) (fun J => ?_)
   ·refine sk <| cm_seq <| cm_block <| sr <| la 1 ((33, I _) :: _) rfl <| lm_ck (fun x => ?_)
    refine vi 34 2 f b x rfl rfl <| vr 35 f x rfl <| lm_alloc 6 [.string (⟨#[]⟩ : ByteArray), I 0] (v := .agg #[.string (⟨#[]⟩ : ByteArray), I 0]) (by kernel_rfl) (by kernel_rfl) rfl fun K => la 1 ((5, I _) :: _) rfl <| sA 0 [.string _, I _] [_, _] (H' := [blkE _ _ [_, _]]) rfl rfl rfl rfl rfl rfl <| nn <| sr <| la 2 ((37, I _) :: (36, S _ _ _) :: _) rfl <| lm_ck (fun i => ?_)
    refine v_ 38 (fun _ _ => op_sliceTo2 (l := p0) rfl rfl (by kernel_rfl) (by kernel_rfl) b i.1 i.2) <| v_ 39 (fun _ _ => op_makeFuncC [.pointer (some ⟨_, _, _⟩)] rfl) <| lc 40 (fun r1 hr1 w1 c1 => m_slices_ContainsFunc_household_people_1_ok N w1 (List.take (Int.toNat g) p0) (ix p0 g) a (Int.toNat g) d K ((f.old c1).take i.1 i.2) (b.take i.1 i.2) (c1.blk 0 rfl) r1 hr1) fun X Y => nn <| cB rfl (fun L => ?_) (fun L => ?_)
    ·exact sr <| la 1 ((2, I _) :: _) rfl <| nn <| cm_ret <| xm_inR <| xm_thenR <| xm_lret <| xm_inR <| xm_lret <| xr [] ()
    ·refine cm_skip <| xm_inN <| xm_next <| cm_region <| lm_ck (fun M => ?_)
     exact va 41 M rfl rfl <| la 1 ((31, I _) :: _) rfl <| lm_nil <| xn () []
   ·exact cm_exit <| xm_thenE <| xm_lexit <| xm_here <| xm_lnext () sub_nil (sh [])
  intro o q
  exact sr <| la 1 ((2, I _) :: _) rfl <| nn <| cm_ret <| xr [] ()
/-- household.valid -/
def m_household_valid (_N : Nat) (p0 : ApiWindow) : Option (Bool) :=
 some ((((decide (0 ≤ p0.From)) && (decide (p0.From ≤ p0.To))) && (decide (p0.To ≤ 3155760000))))
set_option maxRecDepth 20000 in
theorem m_household_valid_ok (N : Nat) (w0 : World) (p0 : ApiWindow)   (r : Bool) (hr : m_household_valid N p0 = some r) :
  Ret Tryz.prog 107 [.agg #[I p0.From, I p0.To]] w0 VB H0 r := by
 refine calls_v (n := 18) r hr Tryz.func107 ?_
 unfold m_household_valid
 refine sr <| bx 1 [I _, I _] rfl fun b5 => la 1 ((2, B false) :: _) rfl <| nn <| cm_seq <| cm_cutE [(2, B (((decide (0 ≤ p0.From)) && (decide (p0.From ≤ p0.To))) && (decide (p0.To ≤ 3155760000))))] ?_ ?_
 ·refine qf 3 0 0 rfl <| qc 4 0 rfl rfl rfl <| qd 5 (fun _ _ => op_leq rfl rfl) (fun h6 => ?_) (fun h6 => ?_)
  ·refine qa 1 ((6, B true) :: _) rfl <| qf 7 0 0 rfl <| qc 8 0 rfl rfl rfl <| qf 9 1 1 rfl <| qc 10 0 rfl rfl rfl <| qd 11 (fun _ _ => op_leq rfl rfl) (fun h7 => ?_) (fun h7 => ?_)
   ·exact qa 2 ((13, B true) :: (12, B true) :: _) rfl <| qf 14 1 1 rfl <| qc 15 0 rfl rfl rfl <| qa 3 ((2, B _) :: (17, B _) :: (16, B _) :: _) rfl <| lb 16 rfl (by rw [dt h6, dt h7] <;> rfl)
   ·exact qa 7 ((2, B false) :: (17, B false) :: uz 16 3 ((13, B false) :: (12, B false) :: _)) rfl <| lb 16 rfl (by rw [dt h6, df h7] <;> rfl)
  ·exact qa 13 ((2, B false) :: (17, B false) :: uz 16 3 ((13, B false) :: (12, B false) :: uz 11 5 ((6, B false) :: _))) rfl <| lb 16 rfl (by rw [df h6] <;> rfl)
 exact xm_next <| cm_ret <| xr [] ()
/-- household.common -/
def m_household_common (_N : Nat) (p0 : ApiWindow) (p1 : ApiWindow) : Option (ApiWindow) :=
 some ((ApiWindow.mk (max p0.From p1.From) (min p0.To p1.To)))
set_option maxRecDepth 20000 in
theorem m_household_common_ok (N : Nat) (w0 : World) (p0 : ApiWindow) (p1 : ApiWindow)   (r : ApiWindow) (hr : m_household_common N p0 p1 = some r) :
  Ret Tryz.prog 110 [.agg #[I p0.From, I p0.To], .agg #[I p1.From, I p1.To]] w0 (fun (r : ApiWindow) (_u : Unit) => .agg #[I r.From, I r.To]) H0 r := by
 refine calls_v (n := 16) r hr Tryz.func110 ?_
 unfold m_household_common
 exact sr <| bx 2 [I _, I _] rfl fun b5 => bx 3 [I _, I _] rfl fun b6 => al 4 [I 0, I 0] (v := .agg #[I 0, I 0]) rfl fun b7 => nn <| sr <| vf 5 0 0 rfl <| vc 6 2 rfl rfl rfl <| vf 7 0 0 rfl <| vc 8 1 rfl rfl rfl <| v_ 9 (fun _ _ => op_max rfl rfl) <| vf 10 1 1 rfl <| vc 11 2 rfl rfl rfl <| vf 12 1 1 rfl <| vc 13 1 rfl rfl rfl <| v_ 14 (fun _ _ => op_min rfl rfl) <| v_ 15 (fun _ _ => op_build (z := [I 0, I 0]) (tab := [(0, 1), (1, 1)]) (cs := [I _, I _]) [(0, [I _]), (1, [I _])] (by kernel_rfl) (by kernel_rfl) (fillOk_cons rfl rfl rfl (fillOk_cons rfl rfl rfl fillOk_nil)) rfl) <| sA 0 [I _, I _] [_, _] (H' := [blkE _ _ [_, _], _, _]) rfl rfl rfl rfl rfl rfl <| nn <| cm_ret <| xm_retC rfl (by kernel_rfl) (show _ = Value.pointer (some ⟨_, 0, none⟩) from rfl) (by kernel_rfl) (fun w1 c1 => c1.cells 0 (ds := [I _, I _]) rfl rfl) fun w1 c1 => ⟨(), rfl, hs [] c1⟩
/-- household.empty -/
def m_household_empty (_N : Nat) (p0 : ApiWindow) : Option (Bool) :=
 some ((decide (p0.To ≤ p0.From)))
set_option maxRecDepth 20000 in
theorem m_household_empty_ok (N : Nat) (w0 : World) (p0 : ApiWindow)   (r : Bool) (hr : m_household_empty N p0 = some r) :
  Ret Tryz.prog 109 [.agg #[I p0.From, I p0.To]] w0 VB H0 r := by
 refine calls_v (n := 8) r hr Tryz.func109 ?_
 unfold m_household_empty
 exact sr <| bx 1 [I _, I _] rfl fun b5 => la 1 ((2, B false) :: _) rfl <| nn <| sr <| vf 3 0 0 rfl <| vc 4 0 rfl rfl rfl <| vf 5 1 1 rfl <| vc 6 0 rfl rfl rfl <| la 2 ((2, B _) :: (7, B _) :: _) rfl <| nn <| cm_ret <| xr [] ()
/-- household.Check$1 -/
def m_household_Check_1 (N : Nat) (p0 : ApiAssign) (q0 : ApiAssign) : Option (Bool) :=
 callIf (decide (p0.Container = q0.Container) = true) (m_household_common N q0.When p0.When) fun r6 => callIf (decide (p0.Container = q0.Container) = true) (m_household_empty N r6) fun r8 => some (((decide (p0.Container = q0.Container)) && (!r8)))
set_option maxRecDepth 20000 in
theorem m_household_Check_1_ok (N : Nat) (w0 : World) (p0 : ApiAssign) (q0 : ApiAssign) (d : Nat) (b : Blk w0 d 133 [I q0.Container, I q0.Household, I q0.When.From, I q0.When.To]) (r : Bool) (hr : m_household_Check_1 N p0 q0 = some r) :
  Ret Tryz.prog 108 [.agg #[I p0.Container, I p0.Household, I p0.When.From, I p0.When.To], .pointer (some ⟨d, 0, none⟩)] w0 VB H0 r := by
 refine calls_v (n := 18) r hr Tryz.func108 ?_
 unfold m_household_Check_1
 refine sr <| bx 2 [I _, I _, I _, I _] rfl fun b5 => la 1 ((3, B false) :: _) rfl <| nn <| cm_seq <| cm_callIf fun r6 h7 => cm_callIf fun r8 h9 => cm_cutE [(3, B ((decide (p0.Container = q0.Container)) && (!r8)))] ?_ ?_
 ·refine qf 4 0 0 rfl <| qc 5 0 rfl rfl rfl <| qf 6 0 0 rfl <| q_ 7 (fun _ c1 => oL (c1.ocell (b.at_ 0 (u := I _) rfl))) <| qd 8 (fun _ _ => op_eql rfl rfl) (fun a => ?_) (fun a => ?_)
  ·exact qa 1 ((9, B true) :: _) rfl <| qf 10 2 2 rfl <| q_ 11 (fun _ c1 => oR [I _, I _] (c1.ocells b rfl)) <| qf 12 2 2 rfl <| qR 13 [I _, I _] 0 rfl rfl rfl <| qk 14 (fun w1 c1 => m_household_common_ok N w1 q0.When p0.When  r6 (h7 (by rw [dt a] <;> rfl))) <| qk 15 (fun w1 c1 => m_household_empty_ok N w1 r6  r8 (h9 (by rw [dt a] <;> rfl))) <| qa 3 ((3, B _) :: (17, B _) :: (16, B _) :: _) rfl <| lb 15 rfl (by rw [dt a] <;> rfl)
  ·exact qa 10 ((3, B false) :: (17, B false) :: uz 16 7 ((9, B false) :: _)) rfl <| lb 15 rfl (by rw [df a] <;> rfl)
 exact xm_next <| cm_ret <| xr [] ()
/-- slices.IndexFunc -/
def m_slices_IndexFunc_household_Check_1 (N : Nat) (p0 : (List ApiAssign)) (p1c0 : ApiAssign) : Option (Int) :=
 (andThen
  (loopM (fun (a : Int) =>
   (if a < (List.length p0 : Int) then
    ck (0 ≤ a ∧ a < (List.length p0 : Int)) (
     Option.bind (m_household_Check_1 N (ix p0 a) p1c0) fun b => (if b = true then
      some (.done (.done (a)))
     else
      ck (I64 (a + 1)) (
       some (.next (a + 1)))))
   else
    some (.done (.next ())))) N 0)
 fun (_s29 : Unit) =>
  some ((-1 : Int)))
set_option maxRecDepth 20000 in
theorem m_slices_IndexFunc_household_Check_1_ok (N : Nat) (w0 : World) (p0 : (List ApiAssign)) (p1c0 : ApiAssign) (b : Ad) (d e a : Nat) (f : RdE w0 4 encApiAssign b p0) (g : SW b d e (List.length p0)) (j : Blk w0 a 133 [I p1c0.Container, I p1c0.Household, I p1c0.When.From, I p1c0.When.To]) (r : Int) (hr : m_slices_IndexFunc_household_Check_1 N p0 p1c0 = some r) :
  Ret Tryz.prog 142 [S b d e, .func (.func 108) #[] #[.pointer (some ⟨a, 0, none⟩)]] w0 VI H0 r := by
 refine calls_v (n := 19) r hr Tryz.func142 ?_
 unfold m_slices_IndexFunc_household_Check_1
 refine sr <| la 1 ((4, I _) :: _) rfl <| nn <| cm_join (σ := Unit) (ξ := Unit) (fun l m => []) (fun l m => []) ?_ ?_
 ·refine sr <| la 1 ((6, S _ _ _) :: _) rfl <| vn 7 g rfl <| la 1 ((8, I _) :: _) rfl <| nn <| cm_block <| cm_loop (σ := Int) (ξ := Unit) (fun i o => [(0, S b d e), (1, .func (.func 108) #[] #[.pointer (some ⟨a, 0, none⟩)]), (7, I (List.length p0 : Int)), (8, I i)]) (fun i o => []) () ?_ ?_ ?_
  ·exact sq
  ·exact sh []
  intro i o
  refine sr <| la 1 ((9, B _) :: _) rfl <| nn <| cm_seq <| cc rfl (fun t => ?_) (fun t => ?_)
  ·refine sk <| cm_seq <| cm_block <| sr <| la 2 ((5, I _) :: (10, I _) :: _) rfl <| nn <| sr <| la 3 ((13, I _) :: (12, S _ _ _) :: (11, .func _ _ _) :: _) rfl <| lm_ck (fun q => ?_)
   refine vi 14 4 f g q rfl rfl <| vr 15 f q rfl <| lm_call 16 (V := VB) (HR := H0) (by kernel_rfl) (fun w1 => op_callv rfl (by kernel_rfl)) (fun r1 hr1 w1 c1 => m_household_Check_1_ok N w1 (ix p0 i) p1c0 a (c1.oblk j) r1 hr1) fun y z => nn <| cB rfl (fun v => ?_) (fun v => ?_)
   ·exact sr <| la 2 ((4, I _) :: (17, I _) :: _) rfl <| nn <| cm_ret <| xm_inR <| xm_thenR <| xm_lret <| xm_inR <| xm_lret <| xr [] ()
   ·refine cm_skip <| xm_inN <| xm_next <| cm_region <| lm_ck (fun x => ?_)
    exact va 18 x rfl rfl <| la 1 ((8, I _) :: _) rfl <| lm_nil <| xn () []
  ·exact cm_exit <| xm_thenE <| xm_lexit <| xm_here <| xm_lnext () sub_nil (sh [])
 intro l m
 exact sr <| la 1 ((4, I _) :: _) rfl <| nn <| cm_ret <| xr [] ()
/-- slices.ContainsFunc -/
def m_slices_ContainsFunc_household_Check_1 (N : Nat) (p0 : (List ApiAssign)) (p1c0 : ApiAssign) : Option (Bool) :=
 Option.bind (m_slices_IndexFunc_household_Check_1 N p0 p1c0) fun r5 => some ((decide (0 ≤ r5)))
set_option maxRecDepth 20000 in
theorem m_slices_ContainsFunc_household_Check_1_ok (N : Nat) (w0 : World) (p0 : (List ApiAssign)) (p1c0 : ApiAssign) (b : Ad) (d e a : Nat) (g : RdE w0 4 encApiAssign b p0) (i : SW b d e (List.length p0)) (f : Blk w0 a 133 [I p1c0.Container, I p1c0.Household, I p1c0.When.From, I p1c0.When.To]) (r : Bool) (hr : m_slices_ContainsFunc_household_Check_1 N p0 p1c0 = some r) :
  Ret Tryz.prog 111 [S b d e, .func (.func 108) #[] #[.pointer (some ⟨a, 0, none⟩)]] w0 VB H0 r := by
 refine calls_v (n := 9) r hr Tryz.func111 ?_
 unfold m_slices_ContainsFunc_household_Check_1
 exact sr <| la 1 ((4, B false) :: _) rfl <| nn <| sr <| la 2 ((6, .func _ _ _) :: (5, S _ _ _) :: _) rfl <| lc 7 (fun r1 hr1 w1 c1 => m_slices_IndexFunc_household_Check_1_ok N w1 p0 p1c0 b d e a (g.old c1) i (c1.oblk f) r1 hr1) fun r5 u6 => la 2 ((4, B _) :: (8, B _) :: _) rfl <| nn <| cm_ret <| xr [] ()
/-- household.Check -/
def m_household_Check (N : Nat) (p0 : (List ApiHousehold)) (p1 : Int) (p2 : (List ApiAssign)) : Option (Int) :=
 (if ((decide (p1 < 0)) || (decide (256 < p1))) = true then
  some (1)
 else
  Option.bind (m_household_people N p0) fun r7 => (if r7 ≠ 0 then
   some (r7)
  else
   (if 512 < (List.length p2 : Int) then
    some (8)
   else
    (andThen
     (loopM (fun (b : Int) =>
      (if b < (List.length p2 : Int) then
       ck (0 ≤ b ∧ b < (List.length p2 : Int)) (
        (if ((((decide ((ix p2 b).Container < 0)) || (decide (p1 ≤ (ix p2 b).Container))) || (decide ((ix p2 b).Household < 0))) || (decide ((List.length p0 : Int) ≤ (ix p2 b).Household))) = true then
         some (.done (.done ((7 : Int))))
        else
         Option.bind (m_household_valid N ((ix p2 b).When)) fun e => (if (!e) = true then
          some (.done (.done ((1 : Int))))
         else
          ck (I64 (b + 1)) (
           some (.next (b + 1))))))
      else
       some (.done (.next ())))) N 0)
    fun (_s50 : Unit) =>
     (andThen
      (loopM (fun (a : Int) =>
       (if a < (List.length p2 : Int) then
        ck (0 ≤ a ∧ a < (List.length p2 : Int)) (
         ck (0 ≤ a ∧ a ≤ (List.length p2 : Int)) (
          Option.bind (m_slices_ContainsFunc_household_Check_1 N (List.take (Int.toNat a) p2) (ix p2 a)) fun d => (if d = true then
           some (.done (.done ((12 : Int))))
          else
           ck (I64 (a + 1)) (
            some (.next (a + 1))))))
       else
        some (.done (.next ())))) N 0)
     fun (_s121 : Unit) =>
      some (0))))))
set_option maxHeartbeats 2000000 in
set_option maxRecDepth 20000 in
theorem m_household_Check_ok (N : Nat) (w0 : World) (p0 : (List ApiHousehold)) (p1 : Int) (p2 : (List ApiAssign)) (m : Ad) (o q : Nat) (a : Ad) (e d : Nat) (L : RdE w0 2 encApiHousehold m p0) (x : SW m o q (List.length p0)) (f : RdE w0 4 encApiAssign a p2) (b : SW a e d (List.length p2)) (r : Int) (hr : m_household_Check N p0 p1 p2 = some r) :
  Ret Tryz.prog 55 [S m o q, I p1, S a e d] w0 VI H0 r := by
 refine calls_v (n := 73) r hr Tryz.func55 ?_
 unfold m_household_Check
 refine sr <| la 1 ((6, I _) :: _) rfl <| nn <| cm_seq <| cm_seq <| cm_cutE [(18, B ((decide (p1 < 0)) || (decide (256 < p1))))] ?_ ?_
 ·refine qa 1 ((13, I _) :: _) rfl <| qd 14 (fun _ _ => op_lss rfl rfl) (fun h5 => ?_) (fun h5 => ?_)
  ·exact qa 4 ((18, B true) :: (17, undef) :: (16, undef) :: (15, B true) :: _) rfl <| lb 6 rfl (by rw [dt h5] <;> rfl)
  ·exact qa 4 ((18, B _) :: (17, B _) :: (16, I _) :: (15, B false) :: _) rfl <| lb 6 rfl (by rw [df h5] <;> rfl)
 refine xm_next <| cB rfl (fun h6 => ?_) (fun h6 => ?_)
 ·exact sr <| la 1 ((6, I _) :: _) rfl <| nn <| cm_ret <| xm_thenR <| xr [] ()
 ·refine sk <| cm_seq <| sr <| la 1 ((19, S _ _ _) :: _) rfl <| lc 20 (fun r1 hr1 w1 c1 => m_household_people_ok N w1 p0 m o q (L.old c1) x r1 hr1) fun r7 u8 => la 1 ((7, I _) :: _) rfl <| nn <| sr <| la 2 ((22, B _) :: (21, I _) :: _) rfl <| nn <| cc rfl (fun h9 => ?_) (fun h9 => ?_)
  ·exact sr <| la 2 ((6, I _) :: (23, I _) :: _) rfl <| nn <| cm_ret <| xm_thenR <| xr [] ()
  ·refine sk <| cm_seq <| sr <| la 1 ((24, S _ _ _) :: _) rfl <| vn 25 b rfl <| la 1 ((26, B _) :: _) rfl <| nn <| cc rfl (fun a0 => ?_) (fun a0 => ?_)
   ·exact sr <| la 1 ((6, I _) :: _) rfl <| nn <| cm_ret <| xm_thenR <| xr [] ()
   ·refine sk <| cm_join (σ := Unit) (ξ := Unit) (fun M O => [(2, S a e d)]) (fun M O => []) ?_ ?_
    ·refine sr <| la 1 ((27, S _ _ _) :: _) rfl <| vn 28 b rfl <| la 1 ((29, I _) :: _) rfl <| nn <| cm_block <| cm_loop (σ := Int) (ξ := Unit) (fun j Q => [(0, S m o q), (1, I p1), (2, S a e d), (27, S a e d), (28, I (List.length p2 : Int)), (29, I j)]) (fun j Q => []) () ?_ ?_ ?_
     ·exact sq
     ·exact sh []
     intro j Q
     refine sr <| la 1 ((30, B _) :: _) rfl <| nn <| cm_seq <| cc rfl (fun a1 => ?_) (fun a1 => ?_)
     ·refine sk <| cm_seq <| cm_block <| sr <| lm_ck (fun U => ?_)
      refine vi 31 4 f b U rfl rfl <| vr 32 f U rfl <| al 9 [I 0, I 0, I 0, I 0] (v := .agg #[I 0, I 0, I 0, I 0]) rfl fun a7 => sA 0 [I _, I _, I _, I _] [_, _, _, _] (H' := [blkE _ _ [_, _, _, _]]) rfl rfl rfl rfl rfl rfl <| nn <| cm_seq <| cm_seq <| cm_cutE [(53, B ((((decide ((ix p2 j).Container < 0)) || (decide (p1 ≤ (ix p2 j).Container))) || (decide ((ix p2 j).Household < 0))) || (decide ((List.length p0 : Int) ≤ (ix p2 j).Household))))] ?_ ?_
      ·refine qf 33 0 0 rfl <| qc 34 0 rfl rfl rfl <| qd 35 (fun _ _ => op_lss rfl rfl) (fun t => ?_) (fun t => ?_)
       ·exact qa 18 ((53, B true) :: uz 52 5 ((47, B true) :: (46, B true) :: uz 45 3 ((42, B true) :: (41, B true) :: uz 40 4 ((36, B true) :: _)))) rfl <| lb 21 rfl (by rw [dt t] <;> rfl)
       ·refine qa 1 ((36, B false) :: _) rfl <| qf 37 0 0 rfl <| qc 38 0 rfl rfl rfl <| qa 1 ((39, I _) :: _) rfl <| qd 40 (fun _ _ => op_geq rfl rfl) (fun y => ?_) (fun y => ?_)
        ·exact qa 13 ((53, B true) :: uz 52 5 ((47, B true) :: (46, B true) :: uz 45 3 ((42, B true) :: (41, B true) :: _))) rfl <| lb 21 rfl (by rw [df t, dt y] <;> rfl)
        ·refine qa 2 ((42, B false) :: (41, B false) :: _) rfl <| qf 43 1 1 rfl <| qc 44 0 rfl rfl rfl <| qd 45 (fun _ _ => op_lss rfl rfl) (fun z => ?_) (fun z => ?_)
         ·exact qa 8 ((53, B true) :: uz 52 5 ((47, B true) :: (46, B true) :: _)) rfl <| lb 21 rfl (by rw [df t, df y, dt z] <;> rfl)
         ·exact qa 2 ((47, B false) :: (46, B false) :: _) rfl <| qf 48 1 1 rfl <| qc 49 0 rfl rfl rfl <| qa 1 ((50, S _ _ _) :: _) rfl <| qn 51 x rfl <| qa 2 ((53, B _) :: (52, B _) :: _) rfl <| lb 21 rfl (by rw [df t, df y, df z] <;> rfl)
      refine xm_next <| cB rfl (fun a2 => ?_) (fun a2 => ?_)
      ·exact sr <| la 1 ((6, I _) :: _) rfl <| nn <| cm_ret <| xm_thenR <| xm_inR <| xm_thenR <| xm_lret <| xm_inR <| xm_lret <| xr [] ()
      ·refine sk <| sr <| vf 54 2 2 rfl <| vR 55 [I _, I _] 0 rfl rfl rfl <| lc 56 (fun r1 hr1 w1 c1 => m_household_valid_ok N w1 ((ix p2 j).When)  r1 hr1) fun a8 a9 => la 1 ((57, B _) :: _) rfl <| nn <| cB rfl (fun a3 => ?_) (fun a3 => ?_)
       ·exact sr <| la 1 ((6, I _) :: _) rfl <| nn <| cm_ret <| xm_inR <| xm_thenR <| xm_lret <| xm_inR <| xm_lret <| xr [] ()
       ·refine cm_skip <| xm_inN <| xm_next <| cm_region <| lm_ck (fun a4 => ?_)
        exact va 58 a4 rfl rfl <| la 1 ((29, I _) :: _) rfl <| lm_nil <| xn () []
     ·exact cm_exit <| xm_thenE <| xm_lexit <| xm_here <| xn () []
    intro M O
    refine cm_join (σ := Unit) (ξ := Unit) (fun C G => []) (fun C G => []) ?_ ?_
    ·refine sr <| la 1 ((59, S _ _ _) :: _) rfl <| vn 60 b rfl <| la 1 ((61, I _) :: _) rfl <| nn <| cm_block <| cm_loop (σ := Int) (ξ := Unit) (fun g J => [(2, S a e d), (59, S a e d), (60, I (List.length p2 : Int)), (61, I g)]) (fun g J => []) () ?_ ?_ ?_
     ·exact sq
     ·exact sh []
     intro g J
     refine sr <| la 1 ((62, B _) :: _) rfl <| nn <| cm_seq <| cc rfl (fun V => ?_) (fun V => ?_)
     ·refine sk <| cm_seq <| cm_block <| sr <| la 1 ((63, I _) :: _) rfl <| lm_ck (fun K => ?_)
      refine vi 64 4 f b K rfl rfl <| vr 65 f K rfl <| al 11 [I 0, I 0, I 0, I 0] (v := .agg #[I 0, I 0, I 0, I 0]) rfl fun X => la 1 ((10, I _) :: _) rfl <| sA 0 [I _, I _, I _, I _] [_, _, _, _] (H' := [blkE _ _ [_, _, _, _]]) rfl rfl rfl rfl rfl rfl <| nn <| sr <| v_ 66 (fun _ _ => op_makeFuncC [.pointer (some ⟨_, _, _⟩)] rfl) <| la 1 ((12, .func _ _ _) :: _) rfl <| nn <| sr <| la 2 ((68, I _) :: (67, S _ _ _) :: _) rfl <| lm_ck (fun i => ?_)
      refine v_ 69 (fun _ _ => op_sliceTo2 (l := p2) rfl rfl (by kernel_rfl) (by kernel_rfl) b i.1 i.2) <| la 1 ((70, .func _ _ _) :: _) rfl <| lc 71 (fun r1 hr1 w1 c1 => m_slices_ContainsFunc_household_Check_1_ok N w1 (List.take (Int.toNat g) p2) (ix p2 g) a (Int.toNat g) d X ((f.old c1).take i.1 i.2) (b.take i.1 i.2) (c1.blk 0 rfl) r1 hr1) fun a5 a6 => nn <| cB rfl (fun Y => ?_) (fun Y => ?_)
      ·exact sr <| la 1 ((6, I _) :: _) rfl <| nn <| cm_ret <| xm_inR <| xm_thenR <| xm_lret <| xm_inR <| xm_lret <| xr [] ()
      ·refine cm_skip <| xm_inN <| xm_next <| cm_region <| lm_ck (fun Z => ?_)
       exact va 72 Z rfl rfl <| la 1 ((61, I _) :: _) rfl <| lm_nil <| xn () []
     ·exact cm_exit <| xm_thenE <| xm_lexit <| xm_here <| xm_lnext () sub_nil (sh [])
    intro C G
    exact sr <| la 1 ((6, I _) :: _) rfl <| nn <| cm_ret <| xr [] ()
end Go.Proofs.YtbnimhmoffchdaaGreatDoor
