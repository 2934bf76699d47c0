/- Layer 59: slices.Grow of a nil slice of findings. -/
import Derived.Test.YtbnimhmoffchdaaGreatDoorZP6
import Derived.Test.YtbnimhmoffchdaaGreatDoorDGrow
import Derived.Test.YtbnimhmoffchdaaGreatDoorZC4
namespace Go.Proofs.YtbnimhmoffchdaaGreatDoor
open Go.RowKit
set_option linter.unusedSectionVars false
variable [JF]

set_option maxRecDepth 20000 in
/-- slices.Grow of a nil slice of findings. -/
theorem grow_ok {n : Int} (w0 : World) (h0 : 0 ≤ n) (h1 : n * 24 ≤ 140737488355328) : Calls Tryz.prog 95 [.slice none 0 0, .int .i64 n].toArray w0 fun x w' => ∃ u : Option Addr × Nat, x = .returned (.slice u.1 0 u.2) ∧ Hs w0 [ownE 64 3 encApiFinding u.1 0 u.2 []] w' := by
 have key : Ret Tryz.prog 95 [.slice none 0 0, .int .i64 n] w0 (fun (_ : Unit) (u : Option Addr × Nat) => .slice u.1 0 u.2) (fun _ u => [ownE 64 3 encApiFinding u.1 0 u.2 []]) () := by
  refine calls_v (n := 27) () rfl Tryz.func95 ?_
  refine sr ?_
  refine la 1 ((4, .slice _ _ _) :: _) rfl ?_
  refine nn ?_
  refine cm_seq ?_
  refine sr ?_
  refine la 2 ((6, .bool _) :: (5, .int .i64 _) :: _) rfl ?_
  refine nn ?_
  refine cm_cond_f (by kernel_rfl) (congrArg Value.bool (decide_eq_false (by omega))) ?_
  refine sk ?_
  refine cm_seq ?_
  refine sr ?_
  refine la 2 ((9, .slice none 0 0) :: (8, .int .i64 n) :: _) rfl ?_
  refine v_ 10 (fun _ _ => op_cap rfl (by kernel_rfl)) ?_
  refine la 1 ((11, .slice none 0 0) :: _) rfl ?_
  refine v_ 12 (fun _ _ => op_len rfl (by kernel_rfl)) ?_
  refine v_ 13 (fun _ _ => op_sub (a := 0) (b := 0) rfl rfl (by omega)) ?_
  refine v_ 14 (fun _ _ => op_sub (a := n) (b := 0 - 0) rfl rfl (by omega)) ?_
  refine la 1 ((1, .int .i64 (n - (0 - 0))) :: _) rfl ?_
  refine nn ?_
  refine cm_seq ?_
  refine cm_region ?_
  refine la 2 ((16, .bool _) :: (15, .int .i64 (n - (0 - 0))) :: _) rfl ?_
  refine nn ?_
  by_cases hn : 0 < n
  ·refine cm_cond_t (by kernel_rfl) (congrArg Value.bool (decide_eq_true (by omega))) ?_
   refine cm_region ?_
   refine la 2 ((18, .slice _ _ _) :: (17, .slice _ _ _) :: _) rfl ?_
   refine v_ 19 (fun _ _ => op_cap rfl (by kernel_rfl)) ?_
   refine v_ 20 (fun _ _ => op_sliceTo (k := 0) (sz := 3) rfl rfl (by kernel_rfl) (by kernel_rfl) (Nat.le_refl _)) ?_
   refine la 1 ((21, .int .i64 (n - (0 - 0))) :: _) rfl ?_
   refine lm_appendZ 22 (el := 64) (sz := 3) (bytes := 24) (enc := encApiFinding) (by kernel_rfl) (by kernel_rfl) (by kernel_rfl) rfl rfl (by omega) (by omega) rfl fun b c => ?_
   refine la 1 ((23, .slice _ _ _) :: _) rfl ?_
   refine v_ 24 (fun _ _ => op_len rfl (by kernel_rfl)) ?_
   refine v_ 25 (fun _ _ => op_sliceTo (k := 0) (sz := 3) rfl rfl (by kernel_rfl) (by kernel_rfl) (Nat.zero_le _)) ?_
   refine la 1 ((0, .slice _ _ _) :: _) rfl ?_
   refine nn ?_
   refine sr ?_
   refine la 2 ((4, .slice _ _ _) :: (26, .slice _ _ _) :: _) rfl ?_
   refine nn ?_
   refine cm_ret ?_
   exact xr [0] (some ⟨b, 0, none⟩, c)
  ·refine cm_cond_f (by kernel_rfl) (congrArg Value.bool (decide_eq_false (by omega))) ?_
   refine sk ?_
   refine sr ?_
   refine la 2 ((4, .slice _ _ _) :: (26, .slice _ _ _) :: _) rfl ?_
   refine nn ?_
   refine cm_ret ?_
   refine xm_nilrow 64 3 encApiFinding ?_
   exact xr [0] (none, 0)
 exact key
end Go.Proofs.YtbnimhmoffchdaaGreatDoor
namespace Go.Proofs.YtbnimhmoffchdaaGreatDoor
open Go.RowKit
set_option linter.unusedSectionVars false
variable [JF]

/-- slices.Concat -/
def m_slices_Concat (N : Nat) (p0 : (List (List ApiFinding))) : Option ((List ApiFinding)) :=
 (andThen
  (loopM (fun (b : Int × Int) =>
   (if b.2 < (List.length p0 : Int) then
    (andThen
     (ck (0 ≤ b.2 ∧ b.2 < (List.length p0 : Int)) (
      ck (I64 (b.1 + (List.length (ix p0 b.2) : Int))) (
       (if (b.1 + (List.length (ix p0 b.2) : Int)) < 0 then
        none
       else
        some (.next ())))))
    fun (_s73 : Unit) =>
     ck (I64 (b.2 + 1)) (
      some (.next ((b.1 + (List.length (ix p0 b.2) : Int)), (b.2 + 1)))))
   else
    some (.done (.next b.1)))) N ((0 : Int), (0 : Int)))
 fun (d : Int) =>
  ck (0 ≤ d ∧ d * 24 ≤ 140737488355328) (
   (andThen
    (loopM (fun (a : (List ApiFinding) × Int) =>
     (if a.2 < (List.length p0 : Int) then
      ck (0 ≤ a.2 ∧ a.2 < (List.length p0 : Int)) (
       ck ((List.length a.1 + List.length (ix p0 a.2)) * 24 ≤ 140737488355328) (
        ck (I64 (a.2 + 1)) (
         some (.next ((a.1 ++ (ix p0 a.2)), (a.2 + 1))))))
     else
      some (.done (.next a.1)))) N (([] : List ApiFinding), (0 : Int)))
   fun (e : (List ApiFinding)) =>
    some (e))))
set_option maxHeartbeats 2000000 in
set_option maxRecDepth 20000 in
theorem m_slices_Concat_ok (N : Nat) (w0 : World) (p0 : (List (List ApiFinding))) (f : Ad) (g j : Nat) (a : Int → Hdr) (o : RdI w0 1 (fun (i : Int) (_ : (List ApiFinding)) => encHdr (a i)) f p0) (q : SW f g j (List.length p0)) (t : ∀ i : Int, 0 ≤ i ∧ i < (List.length p0 : Int) → RdE w0 3 encApiFinding (a i).1 (ix p0 i) ∧ SW (a i).1 (a i).2.1 (a i).2.2 (List.length (ix p0 i))) (r : (List ApiFinding)) (hr : m_slices_Concat N p0 = some r) :
  Ret Tryz.prog 40 [S f g j] w0 (fun (_r : (List ApiFinding)) (u : Hdr) => S u.1 u.2.1 u.2.2) (fun (r : (List ApiFinding)) (u : Hdr) => [ownE 64 3 encApiFinding u.1 u.2.1 u.2.2 r]) r := by
 refine calls_v (n := 36) r hr Tryz.func40 ?_
 unfold m_slices_Concat
 refine sr <| la 1 ((2, S _ _ _) :: _) rfl <| nn <| sr <| la 1 ((3, I _) :: _) rfl <| nn <| cm_join (σ := Int) (ξ := Unit) (fun z C => [(0, S f g j), (3, I z)]) (fun z C => []) ?_ ?_
 ·refine sr <| la 1 ((9, S _ _ _) :: _) rfl <| vn 10 q rfl <| la 1 ((11, I _) :: _) rfl <| nn <| cm_block <| cm_loop (σ := Int × Int) (ξ := Unit) (fun l G => [(0, S f g j), (3, I l.1), (9, S f g j), (10, I (List.length p0 : Int)), (11, I l.2)]) (fun l G => []) () ?_ ?_ ?_
  ·exact sq
  ·exact sh []
  intro l G
  refine sr <| la 1 ((12, B _) :: _) rfl <| nn <| cm_seq <| cc rfl (fun Y => ?_) (fun Y => ?_)
  ·refine sk <| cm_join (σ := Unit) (ξ := Unit) (fun J K => [(0, S f g j), (3, I (l.1 + (List.length (ix p0 l.2) : Int))), (9, S f g j), (10, I (List.length p0 : Int)), (11, I l.2)]) (fun J K => []) ?_ ?_
   ·refine cm_block <| sr <| lm_ck (fun x => ?_)
    refine v_ 13 (fun _ c1 => oI 1 rfl rfl ((o.old c1).addr x.1 x.2) q.2.2 x) <| v_ 14 (fun _ c1 => oL (v := S ((a l.2).1) ((a l.2).2.1) ((a l.2).2.2)) ((o.old c1).cell0 x.1 x.2 rfl)) <| la 1 ((5, S _ _ _) :: _) rfl <| nn <| sr <| la 2 ((16, S _ _ _) :: (15, I _) :: _) rfl <| v_ 17 (fun _ _ => op_lenN rfl (by kernel_rfl) (t l.2 x).2.2.2) <| lm_ck (fun Z => ?_)
    refine va 18 Z rfl rfl <| la 1 ((3, I _) :: _) rfl <| nn <| sr <| la 2 ((20, B _) :: (19, I _) :: _) rfl <| nn <| cc rfl (fun a0 => ?_) (fun a0 => ?_)
    ·exact cm_none
    ·exact cm_skip <| xm_inN <| xn () []
   intro J K
   refine cm_region <| lm_ck (fun a1 => ?_)
   exact va 22 a1 rfl rfl <| la 1 ((11, I _) :: _) rfl <| lm_nil <| xn () []
  ·exact cm_exit <| xm_thenE <| xm_lexit <| xm_here <| xn () []
 intro z C
 refine sr <| la 1 ((23, I _) :: _) rfl <| lm_ck (fun L => ?_)
 refine lm_grow 24 (el := 64) (sz := 3) (enc := encApiFinding) (by kernel_rfl) (fun w1 => op_call (by kernel_rfl)) (fun w1 => grow_ok w1 L.1 L.2) fun a2 a3 => la 1 ((6, S _ _ _) :: _) rfl <| nn <| cm_join (σ := (List ApiFinding)) (ξ := Hdr) (fun y b => [(6, S b.1 b.2.1 b.2.2)]) (fun y b => [ownE 64 3 encApiFinding b.1 b.2.1 b.2.2 y]) ?_ ?_
 ·refine sr <| la 1 ((25, S _ _ _) :: _) rfl <| vn 26 q rfl <| la 1 ((27, I _) :: _) rfl <| nn <| cm_block <| cm_loop (σ := (List ApiFinding) × Int) (ξ := Hdr) (fun e d => [(6, S d.1 d.2.1 d.2.2), (25, S f g j), (26, I (List.length p0 : Int)), (27, I e.2)]) (fun e d => [ownE 64 3 encApiFinding d.1 d.2.1 d.2.2 e.1]) (a2, 0, a3) ?_ ?_ ?_
  ·exact sq
  ·exact sh [0]
  intro e d
  refine sr <| la 1 ((28, B _) :: _) rfl <| nn <| cm_seq <| cc rfl (fun M => ?_) (fun M => ?_)
  ·refine sk <| cm_seq <| cm_block <| sr <| lm_ck (fun m => ?_)
   refine v_ 29 (fun _ c1 => oI 1 rfl rfl ((o.old c1).addr m.1 m.2) q.2.2 m) <| v_ 30 (fun _ c1 => oL (v := S ((a e.2).1) ((a e.2).2.1) ((a e.2).2.2)) ((o.old c1).cell0 m.1 m.2 rfl)) <| la 1 ((8, S _ _ _) :: _) rfl <| nn <| cm_region <| la 2 ((32, S _ _ _) :: (31, S _ _ _) :: _) rfl <| lm_ck (fun O => ?_)
   refine ap 33 0 (el := 64) (sz := 3) (bytes := 24) (enc := encApiFinding) (l2 := (ix p0 e.2)) encApiFinding_len encApiFinding_one rfl rfl rfl (fun w1 c1 => (t e.2 m).2) (fun w1 c1 => ((t e.2 m).1.old c1)) O fun Q U V => la 1 ((6, S _ _ _) :: _) rfl <| lm_nil <| xm_inN <| xm_next <| cm_region <| lm_ck (fun X => ?_)
   exact va 34 X rfl rfl <| la 1 ((27, I _) :: _) rfl <| lm_nil <| xn (Q, U, V) [0]
  ·exact cm_exit <| xm_thenE <| xm_lexit <| xm_here <| xn (d.1, d.2.1, d.2.2) [0]
 intro y b
 exact sr <| la 2 ((2, S _ _ _) :: (35, S _ _ _) :: _) rfl <| nn <| cm_ret <| xr [0] (b.1, b.2.1, b.2.2)
end Go.Proofs.YtbnimhmoffchdaaGreatDoor
