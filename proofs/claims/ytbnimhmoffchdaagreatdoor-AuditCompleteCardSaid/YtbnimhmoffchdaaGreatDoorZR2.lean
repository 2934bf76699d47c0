/- Models of functions, and that the code follows them. Written by deco.py. -/
import Derived.Test.YtbnimhmoffchdaaGreatDoorZR1
namespace Go.Proofs.YtbnimhmoffchdaaGreatDoor
open Go.RowKit
set_option linter.unusedSectionVars false
variable [JF]

/-- recyclingref18.ordered -/
def m_recyclingref18_ordered (N : Nat) (p0 : (List ApiEmptying)) : Option ((List Int)) :=
 (andThen
  (loopM (fun (a : (List Int) × Int) =>
   (if a.2 < (List.length p0 : Int) then
    (andThen
     (loopM (fun (b : Int) =>
      ck (decide (0 < b) = true → 0 ≤ a.2 ∧ a.2 < (List.length p0 : Int)) (
       ck (decide (0 < b) = true → I64 (b - 1)) (
        ck (decide (0 < b) = true → 0 ≤ (b - 1) ∧ (b - 1) < (List.length a.1 : Int)) (
         ck (decide (0 < b) = true → 0 ≤ (ix a.1 (b - 1)) ∧ (ix a.1 (b - 1)) < (List.length p0 : Int)) (
          ck (((decide (0 < b)) && (!(decide ((ix p0 a.2).At < (ix p0 (ix a.1 (b - 1))).At)))) = true → 0 ≤ a.2 ∧ a.2 < (List.length p0 : Int)) (
           ck (((decide (0 < b)) && (!(decide ((ix p0 a.2).At < (ix p0 (ix a.1 (b - 1))).At)))) = true → I64 (b - 1)) (
            ck (((decide (0 < b)) && (!(decide ((ix p0 a.2).At < (ix p0 (ix a.1 (b - 1))).At)))) = true → 0 ≤ (b - 1) ∧ (b - 1) < (List.length a.1 : Int)) (
             ck (((decide (0 < b)) && (!(decide ((ix p0 a.2).At < (ix p0 (ix a.1 (b - 1))).At)))) = true → 0 ≤ (ix a.1 (b - 1)) ∧ (ix a.1 (b - 1)) < (List.length p0 : Int)) (
              ck ((((decide (0 < b)) && (!(decide ((ix p0 a.2).At < (ix p0 (ix a.1 (b - 1))).At)))) && (decide ((ix p0 a.2).At = (ix p0 (ix a.1 (b - 1))).At))) = true → 0 ≤ a.2 ∧ a.2 < (List.length p0 : Int)) (
               ck ((((decide (0 < b)) && (!(decide ((ix p0 a.2).At < (ix p0 (ix a.1 (b - 1))).At)))) && (decide ((ix p0 a.2).At = (ix p0 (ix a.1 (b - 1))).At))) = true → I64 (b - 1)) (
                ck ((((decide (0 < b)) && (!(decide ((ix p0 a.2).At < (ix p0 (ix a.1 (b - 1))).At)))) && (decide ((ix p0 a.2).At = (ix p0 (ix a.1 (b - 1))).At))) = true → 0 ≤ (b - 1) ∧ (b - 1) < (List.length a.1 : Int)) (
                 ck ((((decide (0 < b)) && (!(decide ((ix p0 a.2).At < (ix p0 (ix a.1 (b - 1))).At)))) && (decide ((ix p0 a.2).At = (ix p0 (ix a.1 (b - 1))).At))) = true → 0 ≤ (ix a.1 (b - 1)) ∧ (ix a.1 (b - 1)) < (List.length p0 : Int)) (
                  (if ((decide (0 < b)) && ((decide ((ix p0 a.2).At < (ix p0 (ix a.1 (b - 1))).At)) || ((decide ((ix p0 a.2).At = (ix p0 (ix a.1 (b - 1))).At)) && (decide ((ix p0 a.2).ID < (ix p0 (ix a.1 (b - 1))).ID))))) = true then
                   ck (I64 (b - 1)) (
                    some (.next (b - 1)))
                  else
                   some (.done (.next b)))))))))))))))) N (List.length a.1 : Int))
    fun (d : Int) =>
     ck (0 ≤ d ∧ d ≤ (List.length a.1 : Int)) (
      ck ((List.length ([] : List Int) + List.length (List.drop (Int.toNat d) a.1)) * 8 ≤ 140737488355328) (
       ck (0 ≤ d ∧ d ≤ (List.length a.1 : Int)) (
        ck (0 < List.length ([a.2])) (
         ck ((List.length (List.take (Int.toNat d) a.1) + List.length ([a.2])) * 8 ≤ 140737488355328) (
          ck ((List.length ((List.take (Int.toNat d) a.1) ++ ([a.2])) + List.length (([] : List Int) ++ (List.drop (Int.toNat d) a.1))) * 8 ≤ 140737488355328) (
           ck (I64 (a.2 + 1)) (
            some (.next ((((List.take (Int.toNat d) a.1) ++ ([a.2])) ++ (([] : List Int) ++ (List.drop (Int.toNat d) a.1))), (a.2 + 1)))))))))))
   else
    some (.done (.next a.1)))) N (([] : List Int), (0 : Int)))
 fun (e : (List Int)) =>
  some (e))
set_option maxHeartbeats 2000000 in
set_option maxRecDepth 20000 in
theorem m_recyclingref18_ordered_ok (N : Nat) (w0 : World) (p0 : (List ApiEmptying)) (t : Ad) (C G : Nat) (g : RdE w0 7 encApiEmptying t p0) (q : SW t C G (List.length p0)) (r : (List Int)) (hr : m_recyclingref18_ordered N p0 = some r) :
  Ret Tryz.prog 164 [S t C G] w0 (fun (_r : (List Int)) (u : Hdr) => S u.1 u.2.1 u.2.2) (fun (r : (List Int)) (u : Hdr) => [ownE 3 1 encI u.1 u.2.1 u.2.2 r]) r := by
 refine calls_v (n := 86) r hr Tryz.func164 ?_
 unfold m_recyclingref18_ordered
 refine sr <| la 1 ((2, S _ _ _) :: _) rfl <| nn <| sr <| lm_slice0 7 (el := 3) (sz := 1) (bytes := 8) (enc := encI) (by kernel_rfl) (by kernel_rfl) fun A5 n6 k7 h8 => la 1 ((3, S _ _ _) :: _) rfl <| nn <| cm_join (σ := (List Int)) (ξ := Hdr) (fun Y o => [(3, S o.1 o.2.1 o.2.2)]) (fun Y o => [ownE 3 1 encI o.1 o.2.1 o.2.2 Y]) ?_ ?_
 ·refine sr <| la 1 ((4, I _) :: _) rfl <| nn <| cm_block <| cm_loop (σ := (List Int) × Int) (ξ := Hdr) (fun d e => [(0, S t C G), (3, S e.1 e.2.1 e.2.2), (4, I d.2)]) (fun d e => [ownE 3 1 encI e.1 e.2.1 e.2.2 d.1]) (A5, n6, k7) ?_ ?_ ?_
  ·exact sq
  ·exact sh [0]
  intro d e
  refine cm_seq <| sr <| la 2 ((9, S _ _ _) :: (8, I _) :: _) rfl <| vn 10 q rfl <| la 1 ((11, B _) :: _) rfl <| nn <| cc rfl (fun a1 => ?_) (fun a1 => ?_)
  ·refine sk <| cm_seq <| cm_block <| sr <| la 1 ((14, S _ _ _) :: _) rfl <| v_ 15 (fun _ c1 => op_lenN rfl (by kernel_rfl) (c1.ownZ 0 rfl).2.2) <| la 1 ((5, I _) :: _) rfl <| nn <| cm_join (σ := Int) (ξ := Unit) (fun x Z => [(0, S t C G), (3, S e.1 e.2.1 e.2.2), (4, I d.2), (5, I x)]) (fun x Z => [ownE 3 1 encI e.1 e.2.1 e.2.2 d.1]) ?_ ?_
   ·refine cm_block <| cm_loop (σ := Int) (ξ := Unit) (fun i a0 => [(0, S t C G), (3, S e.1 e.2.1 e.2.2), (4, I d.2), (5, I i)]) (fun i a0 => [ownE 3 1 encI e.1 e.2.1 e.2.2 d.1]) () ?_ ?_ ?_
    ·exact sq
    ·exact sh [0]
    intro i a0
    refine cm_seq <| cm_seq <| cm_ck (fun J => ?_)
    refine cm_ck (fun a2 => ?_)
    refine cm_ck (fun K => ?_)
    refine cm_ck (fun L => ?_)
    refine cm_ck (fun M => ?_)
    refine cm_ck (fun a3 => ?_)
    refine cm_ck (fun O => ?_)
    refine cm_ck (fun Q => ?_)
    refine cm_ck (fun U => ?_)
    refine cm_ck (fun a4 => ?_)
    refine cm_ck (fun V => ?_)
    refine cm_ck (fun X => ?_)
    refine cm_drawn [(68, B ((decide (0 < i)) && ((decide ((ix p0 d.2).At < (ix p0 (ix d.1 (i - 1))).At)) || ((decide ((ix p0 d.2).At = (ix p0 (ix d.1 (i - 1))).At)) && (decide ((ix p0 d.2).ID < (ix p0 (ix d.1 (i - 1))).ID))))))] (by kernel_rfl) (by kernel_rfl) ?_ ?_
    ·refine qa 1 ((16, I _) :: _) rfl <| qd 17 (fun _ _ => op_gtr rfl rfl) (fun a => ?_) (fun a => ?_)
     ·refine qa 3 ((20, I _) :: (19, S _ _ _) :: (18, B true) :: _) rfl <| q_ 21 (fun _ c1 => oI 7 rfl rfl ((g.old c1).addr (J (by rw [dt a] <;> rfl)).1 (J (by rw [dt a] <;> rfl)).2) q.2.2 (J (by rw [dt a] <;> rfl))) <| q_ 22 (fun _ _ => op_field (m := 3) rfl (by kernel_rfl)) <| q_ 23 (fun _ c1 => oL (v := I ((ix p0 d.2).At)) ((g.old c1).cell (j := 3) (J (by rw [dt a] <;> rfl)).1 (J (by rw [dt a] <;> rfl)).2 rfl)) <| qa 3 ((26, I _) :: (25, S _ _ _) :: (24, S _ _ _) :: _) rfl <| q_ 27 (fun _ _ => op_sub rfl rfl (a2 (by rw [dt a] <;> rfl))) <| q_ 28 (fun _ c1 => oI 1 rfl rfl ((c1.own 0 rfl encI_len).addr (K (by rw [dt a] <;> rfl)).1 (K (by rw [dt a] <;> rfl)).2) (c1.ownZ 0 rfl).2.2 (K (by rw [dt a] <;> rfl))) <| q_ 29 (fun _ c1 => oL (v := I (ix d.1 (i - 1))) ((c1.own 0 rfl encI_len).cell0 (K (by rw [dt a] <;> rfl)).1 (K (by rw [dt a] <;> rfl)).2 rfl)) <| q_ 30 (fun _ c1 => oI 7 rfl rfl ((g.old c1).addr (L (by rw [dt a] <;> rfl)).1 (L (by rw [dt a] <;> rfl)).2) q.2.2 (L (by rw [dt a] <;> rfl))) <| q_ 31 (fun _ _ => op_field (m := 3) rfl (by kernel_rfl)) <| q_ 32 (fun _ c1 => oL (v := I ((ix p0 (ix d.1 (i - 1))).At)) ((g.old c1).cell (j := 3) (L (by rw [dt a] <;> rfl)).1 (L (by rw [dt a] <;> rfl)).2 rfl)) <| qd 33 (fun _ _ => op_lss rfl rfl) (fun b => ?_) (fun b => ?_)
      ·exact qa 35 ((68, B true) :: (67, B true) :: uz 66 32 ((34, B true) :: _)) rfl <| lb 53 rfl (by rw [dt a, dt b] <;> rfl)
      ·refine qa 3 ((36, I _) :: (35, S _ _ _) :: (34, B false) :: _) rfl <| q_ 37 (fun _ c1 => oI 7 rfl rfl ((g.old c1).addr (M (by rw [dt a, df b] <;> rfl)).1 (M (by rw [dt a, df b] <;> rfl)).2) q.2.2 (M (by rw [dt a, df b] <;> rfl))) <| q_ 38 (fun _ _ => op_field (m := 3) rfl (by kernel_rfl)) <| q_ 39 (fun _ c1 => oL (v := I ((ix p0 d.2).At)) ((g.old c1).cell (j := 3) (M (by rw [dt a, df b] <;> rfl)).1 (M (by rw [dt a, df b] <;> rfl)).2 rfl)) <| qa 3 ((42, I _) :: (41, S _ _ _) :: (40, S _ _ _) :: _) rfl <| q_ 43 (fun _ _ => op_sub rfl rfl (a3 (by rw [dt a, df b] <;> rfl))) <| q_ 44 (fun _ c1 => oI 1 rfl rfl ((c1.own 0 rfl encI_len).addr (O (by rw [dt a, df b] <;> rfl)).1 (O (by rw [dt a, df b] <;> rfl)).2) (c1.ownZ 0 rfl).2.2 (O (by rw [dt a, df b] <;> rfl))) <| q_ 45 (fun _ c1 => oL (v := I (ix d.1 (i - 1))) ((c1.own 0 rfl encI_len).cell0 (O (by rw [dt a, df b] <;> rfl)).1 (O (by rw [dt a, df b] <;> rfl)).2 rfl)) <| q_ 46 (fun _ c1 => oI 7 rfl rfl ((g.old c1).addr (Q (by rw [dt a, df b] <;> rfl)).1 (Q (by rw [dt a, df b] <;> rfl)).2) q.2.2 (Q (by rw [dt a, df b] <;> rfl))) <| q_ 47 (fun _ _ => op_field (m := 3) rfl (by kernel_rfl)) <| q_ 48 (fun _ c1 => oL (v := I ((ix p0 (ix d.1 (i - 1))).At)) ((g.old c1).cell (j := 3) (Q (by rw [dt a, df b] <;> rfl)).1 (Q (by rw [dt a, df b] <;> rfl)).2 rfl)) <| qd 49 (fun _ _ => op_eql rfl rfl) (fun f => ?_) (fun f => ?_)
       ·exact qa 3 ((52, I _) :: (51, S _ _ _) :: (50, B true) :: _) rfl <| q_ 53 (fun _ c1 => oI 7 rfl rfl ((g.old c1).addr (U (by rw [dt a, df b, dt f] <;> rfl)).1 (U (by rw [dt a, df b, dt f] <;> rfl)).2) q.2.2 (U (by rw [dt a, df b, dt f] <;> rfl))) <| qF 54 rfl <| q_ 55 (fun _ c1 => oL (v := I ((ix p0 d.2).ID)) ((g.old c1).cell0 (U (by rw [dt a, df b, dt f] <;> rfl)).1 (U (by rw [dt a, df b, dt f] <;> rfl)).2 rfl)) <| qa 3 ((58, I _) :: (57, S _ _ _) :: (56, S _ _ _) :: _) rfl <| q_ 59 (fun _ _ => op_sub rfl rfl (a4 (by rw [dt a, df b, dt f] <;> rfl))) <| q_ 60 (fun _ c1 => oI 1 rfl rfl ((c1.own 0 rfl encI_len).addr (V (by rw [dt a, df b, dt f] <;> rfl)).1 (V (by rw [dt a, df b, dt f] <;> rfl)).2) (c1.ownZ 0 rfl).2.2 (V (by rw [dt a, df b, dt f] <;> rfl))) <| q_ 61 (fun _ c1 => oL (v := I (ix d.1 (i - 1))) ((c1.own 0 rfl encI_len).cell0 (V (by rw [dt a, df b, dt f] <;> rfl)).1 (V (by rw [dt a, df b, dt f] <;> rfl)).2 rfl)) <| q_ 62 (fun _ c1 => oI 7 rfl rfl ((g.old c1).addr (X (by rw [dt a, df b, dt f] <;> rfl)).1 (X (by rw [dt a, df b, dt f] <;> rfl)).2) q.2.2 (X (by rw [dt a, df b, dt f] <;> rfl))) <| qF 63 rfl <| q_ 64 (fun _ c1 => oL (v := I ((ix p0 (ix d.1 (i - 1))).ID)) ((g.old c1).cell0 (X (by rw [dt a, df b, dt f] <;> rfl)).1 (X (by rw [dt a, df b, dt f] <;> rfl)).2 rfl)) <| qa 4 ((68, B _) :: (67, B _) :: (66, B _) :: (65, B _) :: _) rfl <| lb 53 rfl (by rw [dt a, df b, dt f] <;> rfl)
       ·exact qa 19 ((68, B false) :: (67, B false) :: (66, B false) :: uz 65 15 ((50, B false) :: _)) rfl <| lb 53 rfl (by rw [dt a, df b, df f] <;> rfl)
     ·exact qa 51 ((68, B false) :: uz 67 49 ((18, B false) :: _)) rfl <| lb 53 rfl (by rw [df a] <;> rfl)
    refine xm_next <| cB rfl (fun a5 => ?_) (fun a5 => ?_)
    ·refine sk <| cm_block <| cm_region <| la 1 ((69, I _) :: _) rfl <| lm_ck (fun a6 => ?_)
     exact v_ 70 (fun _ _ => op_sub rfl rfl a6) <| la 1 ((5, I _) :: _) rfl <| lm_nil <| xm_inN <| xn () [0]
    ·exact cm_exit <| xm_thenE <| xm_lexit <| xm_here <| xn () [0]
   intro x Z
   refine sr <| lm_slice0 71 (el := 3) (sz := 1) (bytes := 8) (enc := encI) (by kernel_rfl) (by kernel_rfl) fun af ag ah ai => la 2 ((73, I _) :: (72, S _ _ _) :: _) rfl <| lm_ck (fun y => ?_)
   refine v_ 74 (fun _ c1 => op_sliceFrom (l := d.1) 1 rfl rfl (by kernel_rfl) (by kernel_rfl) (c1.ownZ 1 rfl) y.1 y.2) <| lm_ck (fun a7 => ?_)
   refine ap 75 0 (el := 3) (sz := 1) (bytes := 8) (enc := encI) (l2 := (List.drop (Int.toNat x) d.1)) encI_len encI_one rfl rfl rfl (fun w1 c1 => ((c1.ownZ 1 rfl).drop (sz := 1) y.1 y.2)) (fun w1 c1 => ((c1.own 1 rfl encI_len).drop (c1.ownZ 1 rfl) y.1 y.2)) a7 fun aj ak am => la 1 ((6, S _ _ _) :: _) rfl <| nn <| cm_region <| la 3 ((78, I _) :: (77, I _) :: (76, S _ _ _) :: _) rfl <| lm_ck (fun z => ?_)
   refine v_ 79 (fun _ c1 => op_slice3 (l := d.1) rfl rfl rfl (by kernel_rfl) (by kernel_rfl) ((c1.own 1 rfl encI_len).some_ (c1.ownZ 1 rfl)) (c1.ownZ 1 rfl) z.1 z.2) <| la 1 ((80, I _) :: _) rfl <| lm_slice1 81 (el := 3) (sz := 1) (bytes := 8) (enc := encI) d.2 (by kernel_rfl) (by kernel_rfl) encI_len rfl (by kernel_rfl) fun an ao aq ar => lm_ck (fun a8 => ?_)
   refine lm_ck (fun a9 => ?_)
   refine lm_appendF 82 (el := 3) (sz := 1) (bytes := 8) (enc := encI) (l := (List.take (Int.toNat x) d.1)) (l2 := ([d.2])) (by kernel_rfl) (by kernel_rfl) encI_len rfl (fun w1 c1 => ((c1.ownZ 2 rfl).take3 z.1 z.2)) (fun w1 c1 => ((c1.own 2 rfl encI_len).take3 z.1 z.2)) rfl (fun w1 c1 => (c1.ownZ 0 rfl)) (fun w1 c1 => (c1.own 0 rfl encI_len)) a8 a9 (by kernel_rfl) fun au av aw => la 1 ((83, S _ _ _) :: _) rfl <| lm_ck (fun aa => ?_)
   refine ap 84 0 (el := 3) (sz := 1) (bytes := 8) (enc := encI) (l2 := (([] : List Int) ++ (List.drop (Int.toNat x) d.1))) encI_len encI_one rfl rfl rfl (fun w1 c1 => (c1.ownZ 2 rfl)) (fun w1 c1 => (c1.own 2 rfl encI_len)) aa fun ab ac ad => la 1 ((3, S _ _ _) :: _) rfl <| lm_nil <| xm_inN <| xm_next <| cm_region <| la 1 ((12, I _) :: _) rfl <| lm_ck (fun ae => ?_)
   exact va 13 ae rfl rfl <| la 1 ((4, I _) :: _) rfl <| lm_nil <| xn (ab, ac, ad) [0]
  ·exact cm_exit <| xm_thenE <| xm_lexit <| xm_here <| xn (e.1, e.2.1, e.2.2) [0]
 intro Y o
 exact sr <| la 2 ((2, S _ _ _) :: (85, S _ _ _) :: _) rfl <| nn <| cm_ret <| xr [0] (o.1, o.2.1, o.2.2)
/-- recyclingref18.counting -/
def m_recyclingref18_counting (N : Nat) (p0 : (List ApiEmptying)) (p1 : Int) : Option ((List Int)) :=
 Option.bind (m_recyclingref18_ordered N p0) fun r5 => (andThen
  (loopM (fun (a : (List Int) × Int) =>
   (if a.2 < (List.length r5 : Int) then
    (andThen
     (ck (0 ≤ a.2 ∧ a.2 < (List.length r5 : Int)) (
      ck (0 ≤ (ix r5 a.2) ∧ (ix r5 a.2) < (List.length p0 : Int)) (
       (andThen
        (loopM (fun (b : Bool × Int) =>
         (if b.2 < (List.length a.1 : Int) then
          ck (0 ≤ b.2 ∧ b.2 < (List.length a.1 : Int)) (
           ck (0 ≤ (ix a.1 b.2) ∧ (ix a.1 b.2) < (List.length p0 : Int)) (
            ck ((b.1 && (!(decide ((ix p0 (ix a.1 b.2)).Container ≠ (ix p0 (ix r5 a.2)).Container)))) = true → I64 (((ix p0 (ix r5 a.2)).At) - ((ix p0 (ix a.1 b.2)).At))) (
             ck (I64 (b.2 + 1)) (
              some (.next ((b.1 && ((decide ((ix p0 (ix a.1 b.2)).Container ≠ (ix p0 (ix r5 a.2)).Container)) || (decide (p1 < (((ix p0 (ix r5 a.2)).At) - ((ix p0 (ix a.1 b.2)).At)))))), (b.2 + 1)))))))
         else
          some (.done (.next b.1)))) N ((!((ix p0 (ix r5 a.2)).Void)), (0 : Int)))
       fun (d : Bool) =>
        (if d = true then
         ck (0 ≤ a.2 ∧ a.2 < (List.length r5 : Int)) (
          ck ((List.length a.1 + List.length ([(ix r5 a.2)])) * 8 ≤ 140737488355328) (
           some (.next (a.1 ++ ([(ix r5 a.2)])))))
        else
         some (.next a.1))))))
    fun (e : (List Int)) =>
     ck (I64 (a.2 + 1)) (
      some (.next (e, (a.2 + 1)))))
   else
    some (.done (.next a.1)))) N (([] : List Int), (0 : Int)))
 fun (f : (List Int)) =>
  some (f))
set_option maxHeartbeats 2000000 in
set_option maxRecDepth 20000 in
theorem m_recyclingref18_counting_ok (N : Nat) (w0 : World) (p0 : (List ApiEmptying)) (p1 : Int) (f : Ad) (i j : Nat) (l : RdE w0 7 encApiEmptying f p0) (x : SW f i j (List.length p0)) (r : (List Int)) (hr : m_recyclingref18_counting N p0 p1 = some r) :
  Ret Tryz.prog 153 [S f i j, I p1] w0 (fun (_r : (List Int)) (u : Hdr) => S u.1 u.2.1 u.2.2) (fun (r : (List Int)) (u : Hdr) => [ownE 3 1 encI u.1 u.2.1 u.2.2 r]) r := by
 refine calls_v (n := 69) r hr Tryz.func153 ?_
 unfold m_recyclingref18_counting
 refine sr <| la 1 ((4, S _ _ _) :: _) rfl <| nn <| sr <| la 1 ((5, S _ _ _) :: _) rfl <| nn <| sr <| la 1 ((12, S _ _ _) :: _) rfl <| lc 13 (fun r1 hr1 w1 c1 => m_recyclingref18_ordered_ok N w1 p0 f i j (l.old c1) x r1 hr1) fun r5 u6 => la 1 ((6, S _ _ _) :: _) rfl <| nn <| cm_join (σ := (List Int)) (ξ := Hdr) (fun z d => [(5, S d.1 d.2.1 d.2.2)]) (fun z d => [ownE 3 1 encI d.1 d.2.1 d.2.2 z]) ?_ ?_
 ·refine sr <| la 1 ((7, I _) :: _) rfl <| nn <| cm_block <| cm_nilrow 3 1 encI <| cm_loop (σ := (List Int) × Int) (ξ := Hdr) (fun b a => [(0, S f i j), (1, I p1), (5, S a.1 a.2.1 a.2.2), (6, S u6.1 u6.2.1 u6.2.2), (7, I b.2)]) (fun b a => [ownE 3 1 encI a.1 a.2.1 a.2.2 b.1, ownE 3 1 encI u6.1 u6.2.1 u6.2.2 r5]) (none, 0, 0) ?_ ?_ ?_
  ·exact sq
  ·exact sh [0, 1]
  intro b a
  refine cm_seq <| sr <| la 2 ((15, S _ _ _) :: (14, I _) :: _) rfl <| v_ 16 (fun _ c1 => op_lenN rfl (by kernel_rfl) (c1.ownZ 1 rfl).2.2) <| la 1 ((17, B _) :: _) rfl <| nn <| cc rfl (fun Q => ?_) (fun Q => ?_)
  ·refine sk <| cm_join (σ := (List Int)) (ξ := Hdr) (fun C e => [(0, S f i j), (1, I p1), (5, S e.1 e.2.1 e.2.2), (6, S u6.1 u6.2.1 u6.2.2), (7, I b.2)]) (fun C e => [ownE 3 1 encI e.1 e.2.1 e.2.2 C, ownE 3 1 encI u6.1 u6.2.1 u6.2.2 r5]) ?_ ?_
   ·refine cm_block <| sr <| la 3 ((22, I _) :: (21, S _ _ _) :: (20, S _ _ _) :: _) rfl <| lm_ck (fun m => ?_)
    refine v_ 23 (fun _ c1 => oI 1 rfl rfl ((c1.own 1 rfl encI_len).addr m.1 m.2) (c1.ownZ 1 rfl).2.2 m) <| v_ 24 (fun _ c1 => oL (v := I (ix r5 b.2)) ((c1.own 1 rfl encI_len).cell0 m.1 m.2 rfl)) <| lm_ck (fun J => ?_)
    refine vi 25 7 l x J rfl rfl <| vr 26 l J rfl <| al 8 [I 0, I 0, I 0, I 0, I 0, I 0, B false] (v := .agg #[I 0, I 0, I 0, I 0, I 0, I 0, B false]) rfl fun K => sA 0 [I _, I _, I _, I _, I _, I _, B _] [_, _, _, _, _, _, _] (H' := [blkE _ _ [_, _, _, _, _, _, _], _, _]) rfl rfl rfl rfl rfl rfl <| nn <| sr <| vf 27 6 6 rfl <| vc 28 0 rfl rfl rfl <| la 2 ((9, B _) :: (29, B _) :: _) rfl <| nn <| cm_join (σ := Bool) (ξ := Unit) (fun G L => [(0, S f i j), (1, I p1), (5, S a.1 a.2.1 a.2.2), (6, S u6.1 u6.2.1 u6.2.2), (7, I b.2), (9, B G)]) (fun G L => [ownE 3 1 encI a.1 a.2.1 a.2.2 b.1, ownE 3 1 encI u6.1 u6.2.1 u6.2.2 r5]) ?_ ?_
    ·refine sr <| la 1 ((10, I _) :: _) rfl <| nn <| cm_block <| cm_loop (σ := Bool × Int) (ξ := Unit) (fun g M => [(0, S f i j), (1, I p1), (5, S a.1 a.2.1 a.2.2), (6, S u6.1 u6.2.1 u6.2.2), (7, I b.2), (8, .pointer (some ⟨K, 0, none⟩)), (9, B g.1), (10, I g.2)]) (fun g M => [ownE 3 1 encI a.1 a.2.1 a.2.2 b.1, ownE 3 1 encI u6.1 u6.2.1 u6.2.2 r5, blkE K 117 [I ((ix p0 (ix r5 b.2)).ID), I ((ix p0 (ix r5 b.2)).Container), I ((ix p0 (ix r5 b.2)).Vehicle), I ((ix p0 (ix r5 b.2)).At), I ((ix p0 (ix r5 b.2)).Mass.Lo), I ((ix p0 (ix r5 b.2)).Mass.Hi), B ((ix p0 (ix r5 b.2)).Void)]]) () ?_ ?_ ?_
     ·exact sq
     ·exact sh [1, 2, 0]
     intro g M
     refine cm_seq <| sr <| la 2 ((31, S _ _ _) :: (30, I _) :: _) rfl <| v_ 32 (fun _ c1 => op_lenN rfl (by kernel_rfl) (c1.ownZ 0 rfl).2.2) <| la 1 ((33, B _) :: _) rfl <| nn <| cc rfl (fun U => ?_) (fun U => ?_)
     ·refine sk <| cm_seq <| cm_block <| sr <| la 3 ((38, I _) :: (37, S _ _ _) :: (36, S _ _ _) :: _) rfl <| lm_ck (fun o => ?_)
      refine v_ 39 (fun _ c1 => oI 1 rfl rfl ((c1.own 0 rfl encI_len).addr o.1 o.2) (c1.ownZ 0 rfl).2.2 o) <| v_ 40 (fun _ c1 => oL (v := I (ix b.1 g.2)) ((c1.own 0 rfl encI_len).cell0 o.1 o.2 rfl)) <| lm_ck (fun O => ?_)
      refine vi 41 7 l x O rfl rfl <| vr 42 l O rfl <| al 11 [I 0, I 0, I 0, I 0, I 0, I 0, B false] (v := .agg #[I 0, I 0, I 0, I 0, I 0, I 0, B false]) rfl fun a4 => sA 0 [I _, I _, I _, I _, I _, I _, B _] [_, _, _, _, _, _, _] (H' := [blkE _ _ [_, _, _, _, _, _, _], _, _, _]) rfl rfl rfl rfl rfl rfl <| nn <| cm_ck (fun V => ?_)
      refine cm_of_then <| cm_cutE [(9, B (g.1 && ((decide ((ix p0 (ix b.1 g.2)).Container ≠ (ix p0 (ix r5 b.2)).Container)) || (decide (p1 < (((ix p0 (ix r5 b.2)).At) - ((ix p0 (ix b.1 g.2)).At)))))))] ?_ ?_
      ·refine wq_bool 43 (by kernel_rfl) (fun w1 c1 => (op_move (v := B _) rfl)) (fun q => ?_) (fun q => ?_)
       ·refine qa 1 ((44, B true) :: _) rfl <| qf 45 1 1 rfl <| qc 46 0 rfl rfl rfl <| qf 47 1 1 rfl <| qc 48 3 rfl rfl rfl <| qd 49 (fun _ _ => op_neq rfl rfl) (fun y => ?_) (fun y => ?_)
        ·exact qa 11 ((9, B true) :: (59, B true) :: (58, B true) :: uz 57 7 ((50, B true) :: _)) rfl <| lb 18 rfl (by rw [q, dt y] <;> rfl)
        ·exact qa 1 ((50, B false) :: _) rfl <| qf 51 3 3 rfl <| qc 52 3 rfl rfl rfl <| qf 53 3 3 rfl <| qc 54 0 rfl rfl rfl <| q_ 55 (fun _ _ => op_sub rfl rfl (V (by rw [q, df y] <;> rfl))) <| qa 5 ((9, B _) :: (59, B _) :: (58, B _) :: (57, B _) :: (56, I _) :: _) rfl <| lb 18 rfl (by rw [q, df y] <;> rfl)
       ·exact qa 17 ((9, B false) :: (59, B false) :: uz 58 14 ((44, B false) :: _)) rfl <| lb 18 rfl (by rw [q] <;> rfl)
      refine xm_of_then <| xm_inN <| xm_next <| cm_region <| la 1 ((34, I _) :: _) rfl <| lm_ck (fun X => ?_)
      exact va 35 X rfl rfl <| la 1 ((10, I _) :: _) rfl <| lm_nil <| xn () [1, 2, 3]
     ·exact cm_exit <| xm_thenE <| xm_lexit <| xm_here <| xn () [0, 1]
    intro G L
    refine sr <| la 1 ((60, B _) :: _) rfl <| nn <| cB rfl (fun Y => ?_) (fun Y => ?_)
    ·refine cm_region <| la 3 ((63, I _) :: (62, S _ _ _) :: (61, S _ _ _) :: _) rfl <| lm_ck (fun t => ?_)
     refine v_ 64 (fun _ c1 => oI 1 rfl rfl ((c1.own 1 rfl encI_len).addr t.1 t.2) (c1.ownZ 1 rfl).2.2 t) <| v_ 65 (fun _ c1 => oL (v := I (ix r5 b.2)) ((c1.own 1 rfl encI_len).cell0 t.1 t.2 rfl)) <| lm_slice1 66 (el := 3) (sz := 1) (bytes := 8) (enc := encI) (ix r5 b.2) (by kernel_rfl) (by kernel_rfl) encI_len rfl (by kernel_rfl) fun a5 a6 a7 a8 => lm_ck (fun Z => ?_)
     exact ap 67 1 (el := 3) (sz := 1) (bytes := 8) (enc := encI) (l2 := ([(ix r5 b.2)])) encI_len encI_one rfl rfl rfl (fun w1 c1 => (c1.ownZ 0 rfl)) (fun w1 c1 => (c1.own 0 rfl encI_len)) Z fun a0 a1 a2 => la 1 ((5, S _ _ _) :: _) rfl <| lm_nil <| xm_inN <| xn (a0, a1, a2) [1, 2]
    ·exact cm_skip <| xm_inN <| xn (a.1, a.2.1, a.2.2) [0, 1]
   intro C e
   refine cm_region <| la 1 ((18, I _) :: _) rfl <| lm_ck (fun a3 => ?_)
   exact va 19 a3 rfl rfl <| la 1 ((7, I _) :: _) rfl <| lm_nil <| xn (e.1, e.2.1, e.2.2) [0, 1]
  ·exact cm_exit <| xm_thenE <| xm_lexit <| xm_here <| xn (a.1, a.2.1, a.2.2) [0]
 intro z d
 exact sr <| la 2 ((4, S _ _ _) :: (68, S _ _ _) :: _) rfl <| nn <| cm_ret <| xr [0] (d.1, d.2.1, d.2.2)
/-- recyclingref18.Counts -/
def m_recyclingref18_Counts (N : Nat) (p0 : (List ApiEmptying)) (p1 : Int) : Option ((List Int) × Int) :=
 Option.bind (m_recyclingref18_Check N p0 (256 : Int) (16 : Int)) fun r5 => (if r5 ≠ 0 then
  some ((([] : List Int), r5))
 else
  (if ((decide (p1 < 0)) || (decide (86400 < p1))) = true then
   some ((([] : List Int), (1 : Int)))
  else
   Option.bind (m_recyclingref18_counting N p0 p1) fun a => some ((a, (0 : Int)))))
set_option maxRecDepth 20000 in
theorem m_recyclingref18_Counts_ok (N : Nat) (w0 : World) (p0 : (List ApiEmptying)) (p1 : Int) (a : Ad) (b d : Nat) (e : RdE w0 7 encApiEmptying a p0) (f : SW a b d (List.length p0)) (r : (List Int) × Int) (hr : m_recyclingref18_Counts N p0 p1 = some r) :
  Ret Tryz.prog 135 [S a b d, I p1] w0 (fun (r : (List Int) × Int) (u : Hdr) => .tuple #[S u.1 u.2.1 u.2.2, I r.2]) (fun (r : (List Int) × Int) (u : Hdr) => [ownE 3 1 encI u.1 u.2.1 u.2.2 r.1]) r := by
 refine calls_v (n := 21) r hr Tryz.func135 ?_
 unfold m_recyclingref18_Counts
 refine sr <| la 2 ((5, I _) :: (4, S _ _ _) :: _) rfl <| nn <| cm_seq <| sr <| la 1 ((7, S _ _ _) :: _) rfl <| lc 8 (fun r1 hr1 w1 c1 => m_recyclingref18_Check_ok N w1 p0 (256 : Int) (16 : Int) a b d (e.old c1) f r1 hr1) fun r5 u6 => la 1 ((6, I _) :: _) rfl <| nn <| sr <| la 2 ((10, B _) :: (9, I _) :: _) rfl <| nn <| cc rfl (fun h7 => ?_) (fun h7 => ?_)
 ·exact sr <| la 3 ((5, I _) :: (4, S _ _ _) :: (11, I _) :: _) rfl <| nn <| cm_ret <| xm_thenR <| xm_nilrow 3 1 encI <| xrr [0] (none, 0, 0)
 ·refine sk <| cm_seq <| cm_seq <| cm_cutE [(17, B ((decide (p1 < 0)) || (decide (86400 < p1))))] ?_ ?_
  ·refine qa 1 ((12, I _) :: _) rfl <| qd 13 (fun _ _ => op_lss rfl rfl) (fun h8 => ?_) (fun h8 => ?_)
   ·exact qa 4 ((17, B true) :: (16, undef) :: (15, undef) :: (14, B true) :: _) rfl <| lb 6 rfl (by rw [dt h8] <;> rfl)
   ·exact qa 4 ((17, B _) :: (16, B _) :: (15, I _) :: (14, B false) :: _) rfl <| lb 6 rfl (by rw [df h8] <;> rfl)
  refine xm_next <| cB rfl (fun h9 => ?_) (fun h9 => ?_)
  ·exact sr <| la 2 ((5, I _) :: (4, S _ _ _) :: _) rfl <| nn <| cm_ret <| xm_thenR <| xm_nilrow 3 1 encI <| xrr [0] (none, 0, 0)
  ·exact sk <| sr <| la 2 ((19, I _) :: (18, S _ _ _) :: _) rfl <| lc 20 (fun r1 hr1 w1 c1 => m_recyclingref18_counting_ok N w1 p0 p1 a b d (e.old c1) f r1 hr1) fun i g => la 2 ((5, I _) :: (4, S _ _ _) :: _) rfl <| nn <| cm_ret <| xrr [0] (g.1, g.2.1, g.2.2)
/-- recyclingref18.Window -/
def m_recyclingref18_Window (_N : Nat) (p0 : ApiWindow) : Option (Bool) :=
 some ((((decide (0 ≤ p0.From)) && (decide (p0.From ≤ p0.To))) && (decide (p0.To ≤ 3155760000))))
set_option maxRecDepth 20000 in
theorem m_recyclingref18_Window_ok (N : Nat) (w0 : World) (p0 : ApiWindow)   (r : Bool) (hr : m_recyclingref18_Window N p0 = some r) :
  Ret Tryz.prog 136 [.agg #[I p0.From, I p0.To]] w0 VB H0 r := by
 refine calls_v (n := 18) r hr Tryz.func136 ?_
 unfold m_recyclingref18_Window
 refine sr <| bx 1 [I _, I _] rfl fun b5 => la 1 ((2, B false) :: _) rfl <| nn <| cm_seq <| cm_cutE [(2, B (((decide (0 ≤ p0.From)) && (decide (p0.From ≤ p0.To))) && (decide (p0.To ≤ 3155760000))))] ?_ ?_
 ·refine qf 3 0 0 rfl <| qc 4 0 rfl rfl rfl <| qd 5 (fun _ _ => op_leq rfl rfl) (fun h6 => ?_) (fun h6 => ?_)
  ·refine qa 1 ((6, B true) :: _) rfl <| qf 7 0 0 rfl <| qc 8 0 rfl rfl rfl <| qf 9 1 1 rfl <| qc 10 0 rfl rfl rfl <| qd 11 (fun _ _ => op_leq rfl rfl) (fun h7 => ?_) (fun h7 => ?_)
   ·exact qa 2 ((13, B true) :: (12, B true) :: _) rfl <| qf 14 1 1 rfl <| qc 15 0 rfl rfl rfl <| qa 3 ((2, B _) :: (17, B _) :: (16, B _) :: _) rfl <| lb 16 rfl (by rw [dt h6, dt h7] <;> rfl)
   ·exact qa 7 ((2, B false) :: (17, B false) :: uz 16 3 ((13, B false) :: (12, B false) :: _)) rfl <| lb 16 rfl (by rw [dt h6, df h7] <;> rfl)
  ·exact qa 13 ((2, B false) :: (17, B false) :: uz 16 3 ((13, B false) :: (12, B false) :: uz 11 5 ((6, B false) :: _))) rfl <| lb 16 rfl (by rw [df h6] <;> rfl)
 exact xm_next <| cm_ret <| xr [] ()
/-- recyclingref18.Belongs -/
def m_recyclingref18_Belongs (N : Nat) (p0 : (List ApiAssign)) (p1 : Int) (p2 : Int) (p3 : Int) : Option (Bool) :=
 (andThen
  (loopM (fun (a : Int) =>
   (if a < (List.length p0 : Int) then
    ck (0 ≤ a ∧ a < (List.length p0 : Int)) (
     ck (decide ((ix p0 a).Container = p1) = true → 0 ≤ a ∧ a < (List.length p0 : Int)) (
      ck (((decide ((ix p0 a).Container = p1)) && (decide ((ix p0 a).When.From ≤ p3))) = true → 0 ≤ a ∧ a < (List.length p0 : Int)) (
       (if (((decide ((ix p0 a).Container = p1)) && (decide ((ix p0 a).When.From ≤ p3))) && (decide (p3 < (ix p0 a).When.To))) = true then
        ck (0 ≤ a ∧ a < (List.length p0 : Int)) (
         some (.done (.done ((decide ((ix p0 a).Household = p2))))))
       else
        ck (I64 (a + 1)) (
         some (.next (a + 1)))))))
   else
    some (.done (.next ())))) N 0)
 fun (_s38 : Unit) =>
  some (false))
set_option maxHeartbeats 2000000 in
set_option maxRecDepth 20000 in
theorem m_recyclingref18_Belongs_ok (N : Nat) (w0 : World) (p0 : (List ApiAssign)) (p1 p2 p3 : Int) (g : Ad) (o q : Nat) (a : RdE w0 4 encApiAssign g p0) (e : SW g o q (List.length p0)) (r : Bool) (hr : m_recyclingref18_Belongs N p0 p1 p2 p3 = some r) :
  Ret Tryz.prog 137 [S g o q, I p1, I p2, I p3] w0 VB H0 r := by
 refine calls_v (n := 50) r hr Tryz.func137 ?_
 unfold m_recyclingref18_Belongs
 refine sr <| la 1 ((8, B false) :: _) rfl <| nn <| cm_join (σ := Unit) (ξ := Unit) (fun y z => []) (fun y z => []) ?_ ?_
 ·refine sr <| la 1 ((9, I _) :: _) rfl <| nn <| cm_block <| cm_loop (σ := Int) (ξ := Unit) (fun d C => [(0, S g o q), (1, I p1), (2, I p2), (3, I p3), (9, I d)]) (fun d C => []) () ?_ ?_ ?_
  ·exact sq
  ·exact sh []
  intro d C
  refine cm_seq <| sr <| la 2 ((11, S _ _ _) :: (10, I _) :: _) rfl <| vn 12 e rfl <| la 1 ((13, B _) :: _) rfl <| nn <| cc rfl (fun G => ?_) (fun G => ?_)
  ·refine sk <| cm_seq <| cm_block <| cm_seq <| cm_ck (fun t => ?_)
   refine cm_ck (fun i => ?_)
   refine cm_ck (fun l => ?_)
   refine cm_cutE [(42, B (((decide ((ix p0 d).Container = p1)) && (decide ((ix p0 d).When.From ≤ p3))) && (decide (p3 < (ix p0 d).When.To))))] ?_ ?_
   ·refine qa 2 ((17, I _) :: (16, S _ _ _) :: _) rfl <| qi 18 4 a e t rfl rfl <| qF 19 rfl <| q_ 20 (fun _ c1 => oL (v := I ((ix p0 d).Container)) ((a.old c1).cell0 t.1 t.2 rfl)) <| qa 1 ((21, I _) :: _) rfl <| qd 22 (fun _ _ => op_eql rfl rfl) (fun b => ?_) (fun b => ?_)
    ·refine qa 3 ((25, I _) :: (24, S _ _ _) :: (23, B true) :: _) rfl <| q_ 26 (fun _ c1 => oI 4 rfl rfl ((a.old c1).addr (i (by rw [dt b] <;> rfl)).1 (i (by rw [dt b] <;> rfl)).2) e.2.2 (i (by rw [dt b] <;> rfl))) <| q_ 27 (fun _ _ => op_field (m := 2) rfl (by kernel_rfl)) <| qF 28 rfl <| q_ 29 (fun _ c1 => oL (v := I ((ix p0 d).When.From)) ((a.old c1).cell (j := 2) (i (by rw [dt b] <;> rfl)).1 (i (by rw [dt b] <;> rfl)).2 rfl)) <| qa 1 ((30, I _) :: _) rfl <| qd 31 (fun _ _ => op_leq rfl rfl) (fun f => ?_) (fun f => ?_)
     ·exact qa 5 ((36, I _) :: (35, S _ _ _) :: (34, I _) :: (33, B true) :: (32, B true) :: _) rfl <| q_ 37 (fun _ c1 => oI 4 rfl rfl ((a.old c1).addr (l (by rw [dt b, dt f] <;> rfl)).1 (l (by rw [dt b, dt f] <;> rfl)).2) e.2.2 (l (by rw [dt b, dt f] <;> rfl))) <| q_ 38 (fun _ _ => op_field (m := 2) rfl (by kernel_rfl)) <| q_ 39 (fun _ _ => oF 1 (ao g + Int.toNat d * 4 + 3) rfl) <| q_ 40 (fun _ c1 => oL (v := I ((ix p0 d).When.To)) ((a.old c1).cell (j := 3) (l (by rw [dt b, dt f] <;> rfl)).1 (l (by rw [dt b, dt f] <;> rfl)).2 rfl)) <| qa 2 ((42, B _) :: (41, B _) :: _) rfl <| lb 27 rfl (by rw [dt b, dt f] <;> rfl)
     ·exact qa 11 ((42, B false) :: uz 41 8 ((33, B false) :: (32, B false) :: _)) rfl <| lb 27 rfl (by rw [dt b, df f] <;> rfl)
    ·exact qa 20 ((42, B false) :: uz 41 8 ((33, B false) :: (32, B false) :: uz 31 8 ((23, B false) :: _))) rfl <| lb 27 rfl (by rw [df b] <;> rfl)
   refine xm_next <| cB rfl (fun J => ?_) (fun J => ?_)
   ·refine sr <| la 2 ((44, I _) :: (43, S _ _ _) :: _) rfl <| lm_ck (fun x => ?_)
    exact vi 45 4 a e x rfl rfl <| v_ 46 (fun _ _ => op_field (m := 1) rfl (by kernel_rfl)) <| v_ 47 (fun _ c1 => oL (v := I ((ix p0 d).Household)) ((a.old c1).cell (j := 1) x.1 x.2 rfl)) <| la 3 ((8, B _) :: (49, B _) :: (48, I _) :: _) rfl <| nn <| cm_ret <| xm_inR <| xm_thenR <| xm_lret <| xm_inR <| xm_lret <| xr [] ()
   ·refine cm_skip <| xm_inN <| xm_next <| cm_region <| la 1 ((14, I _) :: _) rfl <| lm_ck (fun K => ?_)
    exact va 15 K rfl rfl <| la 1 ((9, I _) :: _) rfl <| lm_nil <| xn () []
  ·exact cm_exit <| xm_thenE <| xm_lexit <| xm_here <| xm_lnext () sub_nil (sh [])
 intro y z
 exact sr <| la 1 ((8, B false) :: _) rfl <| nn <| cm_ret <| xr [] ()
/-- recyclingref18.Of -/
def m_recyclingref18_Of (N : Nat) (p0 : (List ApiEmptying)) (p1 : (List ApiAssign)) (p2 : Int) (p3 : ApiWindow) (p4 : Int) : Option ((List Int) × Int) :=
 Option.bind (m_recyclingref18_Counts N p0 p4) fun r6 => (if r6.2 ≠ 0 then
  some ((([] : List Int), r6.2))
 else
  Option.bind (m_recyclingref18_Window N p3) fun r9 => (if (!r9) = true then
   some ((([] : List Int), (1 : Int)))
  else
   (andThen
    (loopM (fun (a : (List Int) × Int) =>
     (if a.2 < (List.length r6.1 : Int) then
      (andThen
       (ck (0 ≤ a.2 ∧ a.2 < (List.length r6.1 : Int)) (
        ck (0 ≤ (ix r6.1 a.2) ∧ (ix r6.1 a.2) < (List.length p0 : Int)) (
         callIf (((decide (p3.From ≤ (ix p0 (ix r6.1 a.2)).At)) && (decide ((ix p0 (ix r6.1 a.2)).At < p3.To))) = true) (m_recyclingref18_Belongs N p1 ((ix p0 (ix r6.1 a.2)).Container) p2 ((ix p0 (ix r6.1 a.2)).At)) fun b => (if (((decide (p3.From ≤ (ix p0 (ix r6.1 a.2)).At)) && (decide ((ix p0 (ix r6.1 a.2)).At < p3.To))) && b) = true then
          ck (0 ≤ a.2 ∧ a.2 < (List.length r6.1 : Int)) (
           ck ((List.length a.1 + List.length ([(ix r6.1 a.2)])) * 8 ≤ 140737488355328) (
            some (.next (a.1 ++ ([(ix r6.1 a.2)])))))
         else
          some (.next a.1)))))
      fun (d : (List Int)) =>
       ck (I64 (a.2 + 1)) (
        some (.next (d, (a.2 + 1)))))
     else
      some (.done (.next a.1)))) N (([] : List Int), (0 : Int)))
   fun (e : (List Int)) =>
    some ((e, (0 : Int))))))
set_option maxHeartbeats 2000000 in
set_option maxRecDepth 20000 in
theorem m_recyclingref18_Of_ok (N : Nat) (w0 : World) (p0 : (List ApiEmptying)) (p1 : (List ApiAssign)) (p2 : Int) (p3 : ApiWindow) (p4 : Int) (f : Ad) (i j : Nat) (g : Ad) (l m : Nat) (x : RdE w0 7 encApiEmptying f p0) (G : SW f i j (List.length p0)) (L : RdE w0 4 encApiAssign g p1) (M : SW g l m (List.length p1)) (r : (List Int) × Int) (hr : m_recyclingref18_Of N p0 p1 p2 p3 p4 = some r) :
  Ret Tryz.prog 103 [S f i j, S g l m, I p2, .agg #[I p3.From, I p3.To], I p4] w0 (fun (r : (List Int) × Int) (u : Hdr) => .tuple #[S u.1 u.2.1 u.2.2, I r.2]) (fun (r : (List Int) × Int) (u : Hdr) => [ownE 3 1 encI u.1 u.2.1 u.2.2 r.1]) r := by
 refine calls_v (n := 71) r hr Tryz.func103 ?_
 unfold m_recyclingref18_Of
 refine sr <| bx 8 [I _, I _] rfl fun b5 => la 2 ((11, I _) :: (10, S _ _ _) :: _) rfl <| nn <| sr <| la 2 ((19, I _) :: (18, S _ _ _) :: _) rfl <| lc 20 (fun r1 hr1 w1 c1 => m_recyclingref18_Counts_ok N w1 p0 p4 f i j (x.old c1) G r1 hr1) fun r6 u7 => la 5 ((13, I _) :: (12, S _ _ _) :: (22, I _) :: (21, S _ _ _) :: (17, .tuple _) :: _) rfl <| nn <| cm_seq <| sr <| la 2 ((24, B _) :: (23, I _) :: _) rfl <| nn <| cc rfl (fun h8 => ?_) (fun h8 => ?_)
 ·exact sr <| la 3 ((11, I _) :: (10, S _ _ _) :: (25, I _) :: _) rfl <| nn <| cm_ret <| xm_thenR <| xm_nilrow 3 1 encI <| xrr [0] (none, 0, 0)
 ·refine sk <| cm_seq <| sr <| vR 26 [I _, I _] 1 rfl rfl rfl <| lc 27 (fun r1 hr1 w1 c1 => m_recyclingref18_Window_ok N w1 p3  r1 hr1) fun r9 a7 => la 1 ((28, B _) :: _) rfl <| nn <| cB rfl (fun a1 => ?_) (fun a1 => ?_)
  ·exact sr <| la 2 ((11, I _) :: (10, S _ _ _) :: _) rfl <| nn <| cm_ret <| xm_thenR <| xm_nilrow 3 1 encI <| xrr [0] (none, 0, 0)
  ·refine sk <| sr <| la 1 ((14, S _ _ _) :: _) rfl <| nn <| cm_join (σ := (List Int)) (ξ := Hdr) (fun z d => [(14, S d.1 d.2.1 d.2.2)]) (fun z d => [ownE 3 1 encI d.1 d.2.1 d.2.2 z]) ?_ ?_
   ·refine sr <| la 1 ((15, I _) :: _) rfl <| nn <| cm_block <| cm_nilrow 3 1 encI <| cm_loop (σ := (List Int) × Int) (ξ := Hdr) (fun b a => [(0, S f i j), (1, S g l m), (2, I p2), (8, .pointer (some ⟨b5, 0, none⟩)), (12, S u7.1 u7.2.1 u7.2.2), (14, S a.1 a.2.1 a.2.2), (15, I b.2)]) (fun b a => [blkE b5 49 [I p3.From, I p3.To], ownE 3 1 encI u7.1 u7.2.1 u7.2.2 r6.1, ownE 3 1 encI a.1 a.2.1 a.2.2 b.1]) (none, 0, 0) ?_ ?_ ?_
    ·exact sq
    ·exact sh [2, 1, 0]
    intro b a
    refine cm_seq <| sr <| la 2 ((30, S _ _ _) :: (29, I _) :: _) rfl <| v_ 31 (fun _ c1 => op_lenN rfl (by kernel_rfl) (c1.ownZ 1 rfl).2.2) <| la 1 ((32, B _) :: _) rfl <| nn <| cc rfl (fun O => ?_) (fun O => ?_)
    ·refine sk <| cm_join (σ := (List Int)) (ξ := Hdr) (fun C e => [(0, S f i j), (1, S g l m), (2, I p2), (8, .pointer (some ⟨b5, 0, none⟩)), (12, S u7.1 u7.2.1 u7.2.2), (14, S e.1 e.2.1 e.2.2), (15, I b.2)]) (fun C e => [blkE b5 49 [I p3.From, I p3.To], ownE 3 1 encI u7.1 u7.2.1 u7.2.2 r6.1, ownE 3 1 encI e.1 e.2.1 e.2.2 C]) ?_ ?_
     ·refine cm_block <| sr <| la 3 ((37, I _) :: (36, S _ _ _) :: (35, S _ _ _) :: _) rfl <| lm_ck (fun o => ?_)
      refine v_ 38 (fun _ c1 => oI 1 rfl rfl ((c1.own 1 rfl encI_len).addr o.1 o.2) (c1.ownZ 1 rfl).2.2 o) <| v_ 39 (fun _ c1 => oL (v := I (ix r6.1 b.2)) ((c1.own 1 rfl encI_len).cell0 o.1 o.2 rfl)) <| lm_ck (fun J => ?_)
      refine vi 40 7 x G J rfl rfl <| vr 41 x J rfl <| al 16 [I 0, I 0, I 0, I 0, I 0, I 0, B false] (v := .agg #[I 0, I 0, I 0, I 0, I 0, I 0, B false]) rfl fun a2 => sA 0 [I _, I _, I _, I _, I _, I _, B _] [_, _, _, _, _, _, _] (H' := [blkE _ _ [_, _, _, _, _, _, _], _, _, _]) rfl rfl rfl rfl rfl rfl <| nn <| cm_seq <| cm_callIf fun K Q => cm_cutE [(62, B (((decide (p3.From ≤ (ix p0 (ix r6.1 b.2)).At)) && (decide ((ix p0 (ix r6.1 b.2)).At < p3.To))) && K))] ?_ ?_
      ·refine qf 42 0 0 rfl <| qc 43 1 rfl rfl rfl <| qf 44 3 3 rfl <| qc 45 0 rfl rfl rfl <| qd 46 (fun _ _ => op_leq rfl rfl) (fun q => ?_) (fun q => ?_)
       ·refine qa 1 ((47, B true) :: _) rfl <| qf 48 3 3 rfl <| qc 49 0 rfl rfl rfl <| qf 50 1 1 rfl <| qc 51 1 rfl rfl rfl <| qd 52 (fun _ _ => op_lss rfl rfl) (fun y => ?_) (fun y => ?_)
        ·exact qa 3 ((55, S _ _ _) :: (54, B true) :: (53, B true) :: _) rfl <| qf 56 1 1 rfl <| qc 57 0 rfl rfl rfl <| qa 1 ((58, I _) :: _) rfl <| qf 59 3 3 rfl <| qc 60 0 rfl rfl rfl <| qk 61 (fun w1 c1 => m_recyclingref18_Belongs_ok N w1 p1 ((ix p0 (ix r6.1 b.2)).Container) p2 ((ix p0 (ix r6.1 b.2)).At) g l m (L.old c1) M K (Q (by rw [dt q, dt y] <;> rfl))) <| qa 1 ((62, B _) :: _) rfl <| lb 21 rfl (by rw [dt q, dt y] <;> rfl)
        ·exact qa 10 ((62, B false) :: uz 61 7 ((54, B false) :: (53, B false) :: _)) rfl <| lb 21 rfl (by rw [dt q, df y] <;> rfl)
       ·exact qa 16 ((62, B false) :: uz 61 7 ((54, B false) :: (53, B false) :: uz 52 5 ((47, B false) :: _))) rfl <| lb 21 rfl (by rw [df q] <;> rfl)
      refine xm_next <| cB rfl (fun U => ?_) (fun U => ?_)
      ·refine cm_region <| la 3 ((65, I _) :: (64, S _ _ _) :: (63, S _ _ _) :: _) rfl <| lm_ck (fun t => ?_)
       refine v_ 66 (fun _ c1 => oI 1 rfl rfl ((c1.own 2 rfl encI_len).addr t.1 t.2) (c1.ownZ 2 rfl).2.2 t) <| v_ 67 (fun _ c1 => oL (v := I (ix r6.1 b.2)) ((c1.own 2 rfl encI_len).cell0 t.1 t.2 rfl)) <| lm_slice1 68 (el := 3) (sz := 1) (bytes := 8) (enc := encI) (ix r6.1 b.2) (by kernel_rfl) (by kernel_rfl) encI_len rfl (by kernel_rfl) fun a3 a4 a5 a6 => lm_ck (fun V => ?_)
       exact ap 69 4 (el := 3) (sz := 1) (bytes := 8) (enc := encI) (l2 := ([(ix r6.1 b.2)])) encI_len encI_one rfl rfl rfl (fun w1 c1 => (c1.ownZ 0 rfl)) (fun w1 c1 => (c1.own 0 rfl encI_len)) V fun X Y Z => la 1 ((14, S _ _ _) :: _) rfl <| lm_nil <| xm_inN <| xn (X, Y, Z) [2, 3, 4]
      ·exact cm_skip <| xm_inN <| xn (a.1, a.2.1, a.2.2) [1, 2, 3]
     intro C e
     refine cm_region <| la 1 ((33, I _) :: _) rfl <| lm_ck (fun a0 => ?_)
     exact va 34 a0 rfl rfl <| la 1 ((15, I _) :: _) rfl <| lm_nil <| xn (e.1, e.2.1, e.2.2) [0, 1, 2]
    ·exact cm_exit <| xm_thenE <| xm_lexit <| xm_here <| xn (a.1, a.2.1, a.2.2) [2]
   intro z d
   exact sr <| la 3 ((11, I _) :: (10, S _ _ _) :: (70, S _ _ _) :: _) rfl <| nn <| cm_ret <| xrr [0] (d.1, d.2.1, d.2.2)
/-- recyclingref53.At -/
def m_recyclingref53_At (N : Nat) (p0 : (List ApiTariff)) (p1 : Int) : Option (Int × Int) :=
 Option.bind (m_recyclingref53_Check N p0) fun r5 => (if r5 ≠ 0 then
  some (((0 : Int), r5))
 else
  (if ((decide (p1 < 0)) || (decide (36524 < p1))) = true then
   some (((0 : Int), (1 : Int)))
  else
   ck ((0 : Int) ≤ 0 ∧ 0 < (List.length p0 : Int)) (
    (if p1 < (ix p0 0).From then
     some (((0 : Int), (7 : Int)))
    else
     (andThen
      (loopM (fun (a : Int × Int) =>
       (if a.2 < (List.length p0 : Int) then
        (andThen
         (ck (0 ≤ a.2 ∧ a.2 < (List.length p0 : Int)) (
          (if (ix p0 a.2).From ≤ p1 then
           some (.next a.2)
          else
           some (.next a.1))))
        fun (b : Int) =>
         ck (I64 (a.2 + 1)) (
          some (.next (b, (a.2 + 1)))))
       else
        some (.done (.next a.1)))) N ((0 : Int), (0 : Int)))
     fun (d : Int) =>
      some ((d, (0 : Int))))))))
set_option maxHeartbeats 2000000 in
set_option maxRecDepth 20000 in
theorem m_recyclingref53_At_ok (N : Nat) (w0 : World) (p0 : (List ApiTariff)) (p1 : Int) (b : Ad) (e f : Nat) (a : RdE w0 5 encApiTariff b p0) (d : SW b e f (List.length p0)) (r : Int × Int) (hr : m_recyclingref53_At N p0 p1 = some r) :
  Ret Tryz.prog 100 [S b e f, I p1] w0 (fun (r : Int × Int) (_u : Unit) => .tuple #[I r.1, I r.2]) H0 r := by
 refine calls_v (n := 41) r hr Tryz.func100 ?_
 unfold m_recyclingref53_At
 refine sr <| la 2 ((5, I _) :: (4, I _) :: _) rfl <| nn <| sr <| la 1 ((9, S _ _ _) :: _) rfl <| lc 10 (fun r1 hr1 w1 c1 => m_recyclingref53_Check_ok N w1 p0 b e f (a.old c1) d r1 hr1) fun r5 u6 => la 1 ((6, I _) :: _) rfl <| nn <| cm_seq <| sr <| la 2 ((12, B _) :: (11, I _) :: _) rfl <| nn <| cc rfl (fun h7 => ?_) (fun h7 => ?_)
 ·exact sr <| la 3 ((5, I _) :: (4, I _) :: (13, I _) :: _) rfl <| nn <| cm_ret <| xm_thenR <| xrr [] ()
 ·refine sk <| cm_seq <| cm_seq <| cm_cutE [(19, B ((decide (p1 < 0)) || (decide (36524 < p1))))] ?_ ?_
  ·refine qa 1 ((14, I _) :: _) rfl <| qd 15 (fun _ _ => op_lss rfl rfl) (fun h8 => ?_) (fun h8 => ?_)
   ·exact qa 4 ((19, B true) :: (18, undef) :: (17, undef) :: (16, B true) :: _) rfl <| lb 6 rfl (by rw [dt h8] <;> rfl)
   ·exact qa 4 ((19, B _) :: (18, B _) :: (17, I _) :: (16, B false) :: _) rfl <| lb 6 rfl (by rw [df h8] <;> rfl)
  refine xm_next <| cB rfl (fun h9 => ?_) (fun h9 => ?_)
  ·exact sr <| la 2 ((5, I _) :: (4, I _) :: _) rfl <| nn <| cm_ret <| xm_thenR <| xrr [] ()
  ·refine sk <| cm_seq <| sr <| la 2 ((21, S _ _ _) :: (20, I _) :: _) rfl <| lm_ck (fun i => ?_)
   refine vi 22 5 a d i rfl rfl <| vF 23 rfl <| v_ 24 (fun _ c1 => oL (v := I ((ix p0 0).From)) ((a.old c1).cell0 i.1 i.2 rfl)) <| la 1 ((25, B _) :: _) rfl <| nn <| cc rfl (fun x => ?_) (fun x => ?_)
   ·exact sr <| la 2 ((5, I _) :: (4, I _) :: _) rfl <| nn <| cm_ret <| xm_thenR <| xrr [] ()
   ·refine sk <| sr <| la 1 ((7, I _) :: _) rfl <| nn <| cm_join (σ := Int) (ξ := Unit) (fun j o => [(7, I j)]) (fun j o => []) ?_ ?_
    ·refine sr <| la 1 ((8, I _) :: _) rfl <| nn <| cm_block <| cm_loop (σ := Int × Int) (ξ := Unit) (fun g q => [(0, S b e f), (1, I p1), (7, I g.1), (8, I g.2)]) (fun g q => []) () ?_ ?_ ?_
     ·exact sq
     ·exact sh []
     intro g q
     refine cm_seq <| sr <| la 2 ((27, S _ _ _) :: (26, I _) :: _) rfl <| vn 28 d rfl <| la 1 ((29, B _) :: _) rfl <| nn <| cc rfl (fun y => ?_) (fun y => ?_)
     ·refine sk <| cm_join (σ := Int) (ξ := Unit) (fun l t => [(0, S b e f), (1, I p1), (7, I l), (8, I g.2)]) (fun l t => []) ?_ ?_
      ·refine cm_block <| sr <| la 2 ((33, I _) :: (32, S _ _ _) :: _) rfl <| lm_ck (fun m => ?_)
       refine vi 34 5 a d m rfl rfl <| vF 35 rfl <| v_ 36 (fun _ c1 => oL (v := I ((ix p0 g.2).From)) ((a.old c1).cell0 m.1 m.2 rfl)) <| la 2 ((38, B _) :: (37, I _) :: _) rfl <| nn <| cc rfl (fun z => ?_) (fun z => ?_)
       ·exact cm_region <| la 2 ((7, I _) :: (39, I _) :: _) rfl <| lm_nil <| xm_inN <| xn () []
       ·exact cm_skip <| xm_inN <| xn () []
      intro l t
      refine cm_region <| la 1 ((30, I _) :: _) rfl <| lm_ck (fun C => ?_)
      exact va 31 C rfl rfl <| la 1 ((8, I _) :: _) rfl <| lm_nil <| xn () []
     ·exact cm_exit <| xm_thenE <| xm_lexit <| xm_here <| xn () []
    intro j o
    exact sr <| la 3 ((5, I _) :: (4, I _) :: (40, I _) :: _) rfl <| nn <| cm_ret <| xrr [] ()
/-- recyclingref53.Mass -/
def m_recyclingref53_Mass (_N : Nat) (p0 : ApiSpan) : Option (Bool) :=
 some ((((decide (0 ≤ p0.Lo)) && (decide (p0.Lo ≤ p0.Hi))) && (decide (p0.Hi ≤ 1073741824))))
set_option maxRecDepth 20000 in
theorem m_recyclingref53_Mass_ok (N : Nat) (w0 : World) (p0 : ApiSpan)   (r : Bool) (hr : m_recyclingref53_Mass N p0 = some r) :
  Ret Tryz.prog 152 [.agg #[I p0.Lo, I p0.Hi]] w0 VB H0 r := by
 refine calls_v (n := 18) r hr Tryz.func152 ?_
 unfold m_recyclingref53_Mass
 refine sr <| bx 1 [I _, I _] rfl fun b5 => la 1 ((2, B false) :: _) rfl <| nn <| cm_seq <| cm_cutE [(2, B (((decide (0 ≤ p0.Lo)) && (decide (p0.Lo ≤ p0.Hi))) && (decide (p0.Hi ≤ 1073741824))))] ?_ ?_
 ·refine qf 3 0 0 rfl <| qc 4 0 rfl rfl rfl <| qd 5 (fun _ _ => op_geq rfl rfl) (fun h6 => ?_) (fun h6 => ?_)
  ·refine qa 1 ((6, B true) :: _) rfl <| qf 7 0 0 rfl <| qc 8 0 rfl rfl rfl <| qf 9 1 1 rfl <| qc 10 0 rfl rfl rfl <| qd 11 (fun _ _ => op_leq rfl rfl) (fun h7 => ?_) (fun h7 => ?_)
   ·exact qa 2 ((13, B true) :: (12, B true) :: _) rfl <| qf 14 1 1 rfl <| qc 15 0 rfl rfl rfl <| qa 3 ((2, B _) :: (17, B _) :: (16, B _) :: _) rfl <| lb 16 rfl (by rw [dt h6, dt h7] <;> rfl)
   ·exact qa 7 ((2, B false) :: (17, B false) :: uz 16 3 ((13, B false) :: (12, B false) :: _)) rfl <| lb 16 rfl (by rw [dt h6, df h7] <;> rfl)
  ·exact qa 13 ((2, B false) :: (17, B false) :: uz 16 3 ((13, B false) :: (12, B false) :: uz 11 5 ((6, B false) :: _))) rfl <| lb 16 rfl (by rw [df h6] <;> rfl)
 exact xm_next <| cm_ret <| xr [] ()
/-- recyclingref53.Weight -/
def m_recyclingref53_Weight (N : Nat) (p0 : ApiTariff) (p1 : ApiSpan) : Option (Int × Int) :=
 Option.bind (m_recyclingref53_Usable N p0) fun r7 => callIf ((!(!r7)) = true) (m_recyclingref53_Mass N p1) fun r9 => (if ((!r7) || (!r9)) = true then
  some (((0 : Int), (1 : Int)))
 else
  ck (I64 p1.Lo) (
   ck (I64 ((Int.tdiv p1.Lo 1000) - p0.Free)) (
    (andThen
     (if ((Int.tdiv p1.Lo 1000) - p0.Free) < 0 then
      some (.next (0 : Int))
     else
      some (.next ((Int.tdiv p1.Lo 1000) - p0.Free)))
    fun (a : Int) =>
     some ((a, (0 : Int)))))))
set_option maxRecDepth 20000 in
theorem m_recyclingref53_Weight_ok (N : Nat) (w0 : World) (p0 : ApiTariff) (p1 : ApiSpan)   (r : Int × Int) (hr : m_recyclingref53_Weight N p0 p1 = some r) :
  Ret Tryz.prog 134 [.agg #[I p0.From, I p0.Base, I p0.Empty, I p0.Kilo, I p0.Free], .agg #[I p1.Lo, I p1.Hi]] w0 (fun (r : Int × Int) (_u : Unit) => .tuple #[I r.1, I r.2]) H0 r := by
 refine calls_v (n := 24) r hr Tryz.func134 ?_
 unfold m_recyclingref53_Weight
 refine sr <| bx 2 [I _, I _, I _, I _, I _] rfl fun b5 => bx 3 [I _, I _] rfl fun b6 => la 2 ((5, I _) :: (4, I _) :: _) rfl <| nn <| cm_seq <| cm_seq <| cm_bind fun r7 h8 => cm_callIf fun r9 e => cm_cutE [(14, B ((!r7) || (!r9)))] ?_ ?_
 ·refine qR 7 [I _, I _, I _, I _, I _] 1 rfl rfl rfl <| qkb 8 (fun w1 c1 => m_recyclingref53_Usable_ok N w1 p0  r7 h8) (fun a => ?_) (fun a => ?_)
  ·exact qa 2 ((10, B false) :: (9, B false) :: _) rfl <| qR 11 [I _, I _] 0 rfl rfl rfl <| qk 12 (fun w1 c1 => m_recyclingref53_Mass_ok N w1 p1  r9 (e (by rw [a] <;> rfl))) <| qa 2 ((14, B _) :: (13, B _) :: _) rfl <| lb 8 rfl (by rw [a] <;> rfl)
  ·exact qa 6 ((14, B true) :: uz 13 3 ((10, B true) :: (9, B true) :: _)) rfl <| lb 8 rfl (by rw [a] <;> rfl)
 refine xm_next <| cB rfl (fun f => ?_) (fun f => ?_)
 ·exact sr <| la 2 ((5, I _) :: (4, I _) :: _) rfl <| nn <| cm_ret <| xm_thenR <| xrr [] ()
 ·refine sk <| sr <| vf 15 0 0 rfl <| vc 16 0 rfl rfl rfl <| lm_ck (fun g => ?_)
  refine v_ 17 (fun _ _ => op_quoK rfl rfl (by kernel_rfl) g) <| vf 18 4 4 rfl <| vc 19 1 rfl rfl rfl <| lm_ck (fun i => ?_)
  refine v_ 20 (fun _ _ => op_sub rfl rfl i) <| la 1 ((6, I _) :: _) rfl <| nn <| cm_join (σ := Int) (ξ := Unit) (fun b d => [(6, I b)]) (fun b d => []) ?_ ?_
  ·refine sr <| la 2 ((22, B _) :: (21, I _) :: _) rfl <| nn <| cc rfl (fun j => ?_) (fun j => ?_)
   ·exact cm_region <| la 1 ((6, I _) :: _) rfl <| lm_nil <| xn () []
   ·exact cm_skip <| xn () []
  intro b d
  exact sr <| la 3 ((5, I _) :: (4, I _) :: (23, I _) :: _) rfl <| nn <| cm_ret <| xrr [] ()
/-- recyclingref53.Items -/
def m_recyclingref53_Items (N : Nat) (p0 : ApiTariff) (p1 : ApiEmptying) : Option ((List ApiItem) × Int) :=
 Option.bind (m_recyclingref53_Weight N p0 p1.Mass) fun r7 => (if (((decide (r7.2 ≠ 0)) || (decide (p1.ID < 1))) || (decide (1000000 < p1.ID))) = true then
  some ((([] : List ApiItem), (1 : Int)))
 else
  (andThen
   (if 0 < r7.1 then
    ck (I64 (r7.1 * p0.Kilo)) (
     ck ((List.length ([(ApiItem.mk 2 p1.ID 1 p0.Empty p0.Empty)]) + List.length ([(ApiItem.mk 3 p1.ID r7.1 p0.Kilo (r7.1 * p0.Kilo))])) * 40 ≤ 140737488355328) (
      some (.next (([(ApiItem.mk 2 p1.ID 1 p0.Empty p0.Empty)]) ++ ([(ApiItem.mk 3 p1.ID r7.1 p0.Kilo (r7.1 * p0.Kilo))])))))
   else
    some (.next ([(ApiItem.mk 2 p1.ID 1 p0.Empty p0.Empty)])))
  fun (a : (List ApiItem)) =>
   some ((a, (0 : Int)))))
set_option maxHeartbeats 2000000 in
set_option maxRecDepth 20000 in
theorem m_recyclingref53_Items_ok (N : Nat) (w0 : World) (p0 : ApiTariff) (p1 : ApiEmptying)   (r : (List ApiItem) × Int) (hr : m_recyclingref53_Items N p0 p1 = some r) :
  Ret Tryz.prog 101 [.agg #[I p0.From, I p0.Base, I p0.Empty, I p0.Kilo, I p0.Free], .agg #[I p1.ID, I p1.Container, I p1.Vehicle, I p1.At, I p1.Mass.Lo, I p1.Mass.Hi, B p1.Void]] w0 (fun (r : (List ApiItem) × Int) (u : Hdr) => .tuple #[S u.1 u.2.1 u.2.2, I r.2]) (fun (r : (List ApiItem) × Int) (u : Hdr) => [ownE 100 5 encApiItem u.1 u.2.1 u.2.2 r.1]) r := by
 refine calls_v (n := 52) r hr Tryz.func101 ?_
 unfold m_recyclingref53_Items
 refine sr <| bx 2 [I _, I _, I _, I _, I _] rfl fun b5 => bx 3 [I _, I _, I _, I _, I _, I _, B _] rfl fun b6 => la 2 ((5, I _) :: (4, S _ _ _) :: _) rfl <| nn <| sr <| vR 10 [I _, I _, I _, I _, I _] 1 rfl rfl rfl <| vf 11 4 4 rfl <| vR 12 [I _, I _] 0 rfl rfl rfl <| lc 13 (fun r1 hr1 w1 c1 => m_recyclingref53_Weight_ok N w1 p0 p1.Mass  r1 hr1) fun r7 u8 => la 5 ((7, I _) :: (6, I _) :: (15, I _) :: (14, I _) :: (9, .tuple _) :: _) rfl <| nn <| cm_seq <| cm_seq <| cm_cutE [(27, B (((decide (r7.2 ≠ 0)) || (decide (p1.ID < 1))) || (decide (1000000 < p1.ID))))] ?_ ?_
 ·refine qa 1 ((16, I _) :: _) rfl <| qd 17 (fun _ _ => op_neq rfl rfl) (fun h9 => ?_) (fun h9 => ?_)
  ·exact qa 10 ((27, B true) :: uz 26 3 ((23, B true) :: (22, B true) :: uz 21 3 ((18, B true) :: _))) rfl <| lb 12 rfl (by rw [dt h9] <;> rfl)
  ·refine qa 1 ((18, B false) :: _) rfl <| qf 19 0 0 rfl <| qc 20 0 rfl rfl rfl <| qd 21 (fun _ _ => op_lss rfl rfl) (fun b => ?_) (fun b => ?_)
   ·exact qa 6 ((27, B true) :: uz 26 3 ((23, B true) :: (22, B true) :: _)) rfl <| lb 12 rfl (by rw [df h9, dt b] <;> rfl)
   ·exact qa 2 ((23, B false) :: (22, B false) :: _) rfl <| qf 24 0 0 rfl <| qc 25 0 rfl rfl rfl <| qa 2 ((27, B _) :: (26, B _) :: _) rfl <| lb 12 rfl (by rw [df h9, df b] <;> rfl)
 refine xm_next <| cB rfl (fun e => ?_) (fun e => ?_)
 ·exact sr <| la 2 ((5, I _) :: (4, S _ _ _) :: _) rfl <| nn <| cm_ret <| xm_thenR <| xm_nilrow 100 5 encApiItem <| xrr [0] (none, 0, 0)
 ·refine sk <| sr <| vf 28 0 0 rfl <| vc 29 0 rfl rfl rfl <| vf 30 2 2 rfl <| vc 31 1 rfl rfl rfl <| vf 32 2 2 rfl <| vc 33 1 rfl rfl rfl <| v_ 34 (fun _ _ => op_build (z := [I 0, I 0, I 0, I 0, I 0]) (tab := [(0, 1), (1, 1), (2, 1), (3, 1), (4, 1)]) (cs := [I _, I _, I _, I _, I _]) [(0, [I _]), (1, [I _]), (2, [I _]), (3, [I _]), (4, [I _])] (by kernel_rfl) (by kernel_rfl) (fillOk_cons rfl rfl rfl (fillOk_cons rfl rfl rfl (fillOk_cons rfl rfl rfl (fillOk_cons rfl rfl rfl (fillOk_cons rfl rfl rfl fillOk_nil))))) rfl) <| lm_slice1 35 (el := 100) (sz := 5) (bytes := 40) (enc := encApiItem) (ApiItem.mk 2 p1.ID 1 p0.Empty p0.Empty) (by kernel_rfl) (by kernel_rfl) encApiItem_len rfl (by kernel_rfl) fun f g i v => la 1 ((8, S _ _ _) :: _) rfl <| nn <| cm_join (σ := (List ApiItem)) (ξ := Hdr) (fun d a => [(8, S a.1 a.2.1 a.2.2)]) (fun d a => [ownE 100 5 encApiItem a.1 a.2.1 a.2.2 d]) ?_ ?_
  ·refine sr <| la 2 ((37, B _) :: (36, I _) :: _) rfl <| nn <| cc rfl (fun j => ?_) (fun j => ?_)
   ·refine cm_region <| la 1 ((38, S _ _ _) :: _) rfl <| vf 39 0 0 rfl <| vc 40 1 rfl rfl rfl <| la 1 ((41, I _) :: _) rfl <| vf 42 3 3 rfl <| vc 43 2 rfl rfl rfl <| la 1 ((44, I _) :: _) rfl <| vf 45 3 3 rfl <| vc 46 2 rfl rfl rfl <| lm_ck (fun l => ?_)
    refine v_ 47 (fun _ _ => op_mul rfl rfl l) <| v_ 48 (fun _ _ => op_build (z := [I 0, I 0, I 0, I 0, I 0]) (tab := [(0, 1), (1, 1), (2, 1), (3, 1), (4, 1)]) (cs := [I _, I _, I _, I _, I _]) [(0, [I _]), (1, [I _]), (2, [I _]), (3, [I _]), (4, [I _])] (by kernel_rfl) (by kernel_rfl) (fillOk_cons rfl rfl rfl (fillOk_cons rfl rfl rfl (fillOk_cons rfl rfl rfl (fillOk_cons rfl rfl rfl (fillOk_cons rfl rfl rfl fillOk_nil))))) rfl) <| lm_slice1 49 (el := 100) (sz := 5) (bytes := 40) (enc := encApiItem) (ApiItem.mk 3 p1.ID r7.1 p0.Kilo (r7.1 * p0.Kilo)) (by kernel_rfl) (by kernel_rfl) encApiItem_len rfl (by kernel_rfl) fun x y C G => lm_ck (fun m => ?_)
    exact ap 50 1 (el := 100) (sz := 5) (bytes := 40) (enc := encApiItem) (l2 := ([(ApiItem.mk 3 p1.ID r7.1 p0.Kilo (r7.1 * p0.Kilo))])) encApiItem_len encApiItem_one rfl rfl rfl (fun w1 c1 => (c1.ownZ 0 rfl)) (fun w1 c1 => (c1.own 0 rfl encApiItem_len)) m fun o q t => la 1 ((8, S _ _ _) :: _) rfl <| lm_nil <| xn (o, q, t) [1]
   ·exact cm_skip <| xn (f, g, i) [0]
  intro d a
  exact sr <| la 3 ((5, I _) :: (4, S _ _ _) :: (51, S _ _ _) :: _) rfl <| nn <| cm_ret <| xrr [0] (a.1, a.2.1, a.2.2)
/-- recyclingref53.Base -/
def m_recyclingref53_Base (N : Nat) (p0 : (List ApiTariff)) (p1 : ApiWindow) : Option ((List ApiItem) × Int) :=
 Option.bind (m_recyclingref53_Check N p0) fun r6 => (if r6 ≠ 0 then
  some ((([] : List ApiItem), r6))
 else
  (if (((decide (p1.From < 0)) || (decide (p1.To < p1.From))) || (decide (36525 < p1.To))) = true then
   some ((([] : List ApiItem), (1 : Int)))
  else
   ck (decide (p1.From < p1.To) = true → (0 : Int) ≤ 0 ∧ 0 < (List.length p0 : Int)) (
    (if ((decide (p1.From < p1.To)) && (decide (p1.From < (ix p0 0).From))) = true then
     some ((([] : List ApiItem), (7 : Int)))
    else
     (andThen
      (loopM (fun (a : (List ApiItem) × Int) =>
       (if a.2 < (List.length p0 : Int) then
        (andThen
         (andThen
          (loopM (fun (b : Int × Int) =>
           (if b.2 < p1.To then
            (andThen
             (ck (0 ≤ a.2 ∧ a.2 < (List.length p0 : Int)) (
              ck (decide ((ix p0 a.2).From ≤ b.2) = true → I64 (a.2 + 1)) (
               ck (((decide ((ix p0 a.2).From ≤ b.2)) && (!(decide ((a.2 + 1) = (List.length p0 : Int))))) = true → I64 (a.2 + 1)) (
                ck (((decide ((ix p0 a.2).From ≤ b.2)) && (!(decide ((a.2 + 1) = (List.length p0 : Int))))) = true → 0 ≤ (a.2 + 1) ∧ (a.2 + 1) < (List.length p0 : Int)) (
                 (if ((decide ((ix p0 a.2).From ≤ b.2)) && ((decide ((a.2 + 1) = (List.length p0 : Int))) || (decide (b.2 < (ix p0 (a.2 + 1)).From)))) = true then
                  ck (I64 (b.1 + 1)) (
                   some (.next (b.1 + 1)))
                 else
                  some (.next b.1)))))))
            fun (e : Int) =>
             ck (I64 (b.2 + 1)) (
              some (.next (e, (b.2 + 1)))))
           else
            some (.done (.next b.1)))) N ((0 : Int), p1.From))
         fun (d : Int) =>
          (if 0 < d then
           ck (0 ≤ a.2 ∧ a.2 < (List.length p0 : Int)) (
            ck (0 ≤ a.2 ∧ a.2 < (List.length p0 : Int)) (
             ck (I64 (d * ((ix p0 a.2).Base))) (
              ck ((List.length a.1 + List.length ([(ApiItem.mk 1 a.2 d ((ix p0 a.2).Base) (d * ((ix p0 a.2).Base)))])) * 40 ≤ 140737488355328) (
               some (.next (a.1 ++ ([(ApiItem.mk 1 a.2 d ((ix p0 a.2).Base) (d * ((ix p0 a.2).Base)))])))))))
          else
           some (.next a.1)))
        fun (f : (List ApiItem)) =>
         ck (I64 (a.2 + 1)) (
          some (.next (f, (a.2 + 1)))))
       else
        some (.done (.next a.1)))) N (([] : List ApiItem), (0 : Int)))
     fun (g : (List ApiItem)) =>
      some ((g, (0 : Int))))))))
set_option maxHeartbeats 2000000 in
set_option maxRecDepth 20000 in
theorem m_recyclingref53_Base_ok (N : Nat) (w0 : World) (p0 : (List ApiTariff)) (p1 : ApiWindow) (x : Ad) (y C : Nat) (e : RdE w0 5 encApiTariff x p0) (t : SW x y C (List.length p0)) (r : (List ApiItem) × Int) (hr : m_recyclingref53_Base N p0 p1 = some r) :
  Ret Tryz.prog 97 [S x y C, .agg #[I p1.From, I p1.To]] w0 (fun (r : (List ApiItem) × Int) (u : Hdr) => .tuple #[S u.1 u.2.1 u.2.2, I r.2]) (fun (r : (List ApiItem) × Int) (u : Hdr) => [ownE 100 5 encApiItem u.1 u.2.1 u.2.2 r.1]) r := by
 refine calls_v (n := 106) r hr Tryz.func97 ?_
 unfold m_recyclingref53_Base
 refine sr <| bx 3 [I _, I _] rfl fun b5 => la 2 ((5, I _) :: (4, S _ _ _) :: _) rfl <| nn <| sr <| la 1 ((11, S _ _ _) :: _) rfl <| lc 12 (fun r1 hr1 w1 c1 => m_recyclingref53_Check_ok N w1 p0 x y C (e.old c1) t r1 hr1) fun r6 u7 => la 1 ((6, I _) :: _) rfl <| nn <| cm_seq <| sr <| la 2 ((14, B _) :: (13, I _) :: _) rfl <| nn <| cc rfl (fun h8 => ?_) (fun h8 => ?_)
 ·exact sr <| la 3 ((5, I _) :: (4, S _ _ _) :: (15, I _) :: _) rfl <| nn <| cm_ret <| xm_thenR <| xm_nilrow 100 5 encApiItem <| xrr [0] (none, 0, 0)
 ·refine sk <| cm_seq <| cm_seq <| cm_cutE [(30, B (((decide (p1.From < 0)) || (decide (p1.To < p1.From))) || (decide (36525 < p1.To))))] ?_ ?_
  ·refine qf 16 0 0 rfl <| qc 17 0 rfl rfl rfl <| qd 18 (fun _ _ => op_lss rfl rfl) (fun h9 => ?_) (fun h9 => ?_)
   ·exact qa 12 ((30, B true) :: uz 29 3 ((26, B true) :: (25, B true) :: uz 24 5 ((19, B true) :: _))) rfl <| lb 15 rfl (by rw [dt h9] <;> rfl)
   ·refine qa 1 ((19, B false) :: _) rfl <| qf 20 0 0 rfl <| qc 21 0 rfl rfl rfl <| qf 22 1 1 rfl <| qc 23 0 rfl rfl rfl <| qd 24 (fun _ _ => op_gtr rfl rfl) (fun a3 => ?_) (fun a3 => ?_)
    ·exact qa 6 ((30, B true) :: uz 29 3 ((26, B true) :: (25, B true) :: _)) rfl <| lb 15 rfl (by rw [df h9, dt a3] <;> rfl)
    ·exact qa 2 ((26, B false) :: (25, B false) :: _) rfl <| qf 27 1 1 rfl <| qc 28 0 rfl rfl rfl <| qa 2 ((30, B _) :: (29, B _) :: _) rfl <| lb 15 rfl (by rw [df h9, df a3] <;> rfl)
  refine xm_next <| cB rfl (fun am => ?_) (fun am => ?_)
  ·exact sr <| la 2 ((5, I _) :: (4, S _ _ _) :: _) rfl <| nn <| cm_ret <| xm_thenR <| xm_nilrow 100 5 encApiItem <| xrr [0] (none, 0, 0)
  ·refine sk <| cm_seq <| cm_seq <| cm_ck (fun Z => ?_)
   refine cm_drawn [(44, B ((decide (p1.From < p1.To)) && (decide (p1.From < (ix p0 0).From))))] (by kernel_rfl) (by kernel_rfl) ?_ ?_
   ·refine qf 31 0 0 rfl <| qc 32 0 rfl rfl rfl <| qf 33 1 1 rfl <| qc 34 0 rfl rfl rfl <| qd 35 (fun _ _ => op_lss rfl rfl) (fun M => ?_) (fun M => ?_)
    ·exact qa 1 ((36, B true) :: _) rfl <| qf 37 0 0 rfl <| qc 38 0 rfl rfl rfl <| qa 1 ((39, S _ _ _) :: _) rfl <| q_ 40 (fun _ c1 => oI 5 rfl rfl ((e.old c1).addr (Z (by rw [dt M] <;> rfl)).1 (Z (by rw [dt M] <;> rfl)).2) t.2.2 (Z (by rw [dt M] <;> rfl))) <| qF 41 rfl <| q_ 42 (fun _ c1 => oL (v := I ((ix p0 0).From)) ((e.old c1).cell0 (Z (by rw [dt M] <;> rfl)).1 (Z (by rw [dt M] <;> rfl)).2 rfl)) <| qa 2 ((44, B _) :: (43, B _) :: _) rfl <| lb 14 rfl (by rw [dt M] <;> rfl)
    ·exact qa 9 ((44, B false) :: uz 43 7 ((36, B false) :: _)) rfl <| lb 14 rfl (by rw [df M] <;> rfl)
   refine xm_next <| cB rfl (fun an => ?_) (fun an => ?_)
   ·exact sr <| la 2 ((5, I _) :: (4, S _ _ _) :: _) rfl <| nn <| cm_ret <| xm_thenR <| xm_nilrow 100 5 encApiItem <| xrr [0] (none, 0, 0)
   ·refine sk <| sr <| la 1 ((7, S _ _ _) :: _) rfl <| nn <| cm_join (σ := (List ApiItem)) (ξ := Hdr) (fun Q f => [(7, S f.1 f.2.1 f.2.2)]) (fun Q f => [ownE 100 5 encApiItem f.1 f.2.1 f.2.2 Q]) ?_ ?_
    ·refine sr <| la 1 ((8, I _) :: _) rfl <| nn <| cm_block <| cm_nilrow 100 5 encApiItem <| cm_loop (σ := (List ApiItem) × Int) (ξ := Hdr) (fun a b => [(0, S x y C), (3, .pointer (some ⟨b5, 0, none⟩)), (7, S b.1 b.2.1 b.2.2), (8, I a.2)]) (fun a b => [blkE b5 49 [I p1.From, I p1.To], ownE 100 5 encApiItem b.1 b.2.1 b.2.2 a.1]) (none, 0, 0) ?_ ?_ ?_
     ·exact sq
     ·exact sh [1, 0]
     intro a b
     refine cm_seq <| sr <| la 2 ((46, S _ _ _) :: (45, I _) :: _) rfl <| vn 47 t rfl <| la 1 ((48, B _) :: _) rfl <| nn <| cc rfl (fun a4 => ?_) (fun a4 => ?_)
     ·refine sk <| cm_join (σ := (List ApiItem)) (ξ := Hdr) (fun U g => [(0, S x y C), (3, .pointer (some ⟨b5, 0, none⟩)), (7, S g.1 g.2.1 g.2.2), (8, I a.2)]) (fun U g => [blkE b5 49 [I p1.From, I p1.To], ownE 100 5 encApiItem g.1 g.2.1 g.2.2 U]) ?_ ?_
      ·refine cm_block <| sr <| la 1 ((9, I _) :: _) rfl <| nn <| cm_join (σ := Int) (ξ := Unit) (fun i a0 => [(0, S x y C), (3, .pointer (some ⟨b5, 0, none⟩)), (7, S b.1 b.2.1 b.2.2), (8, I a.2), (9, I i)]) (fun i a0 => [blkE b5 49 [I p1.From, I p1.To], ownE 100 5 encApiItem b.1 b.2.1 b.2.2 a.1]) ?_ ?_
       ·refine sr <| vf 51 0 0 rfl <| vc 52 0 rfl rfl rfl <| la 1 ((10, I _) :: _) rfl <| nn <| cm_block <| cm_loop (σ := Int × Int) (ξ := Unit) (fun G a1 => [(0, S x y C), (3, .pointer (some ⟨b5, 0, none⟩)), (7, S b.1 b.2.1 b.2.2), (8, I a.2), (9, I G.1), (10, I G.2)]) (fun G a1 => [blkE b5 49 [I p1.From, I p1.To], ownE 100 5 encApiItem b.1 b.2.1 b.2.2 a.1]) () ?_ ?_ ?_
        ·exact sq
        ·exact sh [0, 1]
        intro G a1
        refine cm_seq <| sr <| la 1 ((53, I _) :: _) rfl <| vf 54 1 1 rfl <| vc 55 0 rfl rfl rfl <| la 1 ((56, B _) :: _) rfl <| nn <| cc rfl (fun a5 => ?_) (fun a5 => ?_)
        ·refine sk <| cm_join (σ := Int) (ξ := Unit) (fun V a2 => [(0, S x y C), (3, .pointer (some ⟨b5, 0, none⟩)), (7, S b.1 b.2.1 b.2.2), (8, I a.2), (9, I V), (10, I G.2)]) (fun V a2 => [blkE b5 49 [I p1.From, I p1.To], ownE 100 5 encApiItem b.1 b.2.1 b.2.2 a.1]) ?_ ?_
         ·refine cm_block <| cm_seq <| cm_ck (fun X => ?_)
          refine cm_ck (fun a6 => ?_)
          refine cm_ck (fun a7 => ?_)
          refine cm_ck (fun J => ?_)
          refine cm_cutE [(82, B ((decide ((ix p0 a.2).From ≤ G.2)) && ((decide ((a.2 + 1) = (List.length p0 : Int))) || (decide (G.2 < (ix p0 (a.2 + 1)).From)))))] ?_ ?_
          ·refine qa 3 ((61, I _) :: (60, S _ _ _) :: (59, I _) :: _) rfl <| qi 62 5 e t X rfl rfl <| qF 63 rfl <| q_ 64 (fun _ c1 => oL (v := I ((ix p0 a.2).From)) ((e.old c1).cell0 X.1 X.2 rfl)) <| qd 65 (fun _ _ => op_geq rfl rfl) (fun l => ?_) (fun l => ?_)
           ·refine qa 2 ((67, I _) :: (66, B true) :: _) rfl <| q_ 68 (fun _ _ => op_add rfl rfl (a6 (by rw [dt l] <;> rfl))) <| qa 1 ((69, S _ _ _) :: _) rfl <| qn 70 t rfl <| qd 71 (fun _ _ => op_eql rfl rfl) (fun q => ?_) (fun q => ?_)
            ·exact qa 11 ((82, B true) :: (81, B true) :: uz 80 8 ((72, B true) :: _)) rfl <| lb 24 rfl (by rw [dt l, dt q] <;> rfl)
            ·exact qa 4 ((75, I _) :: (74, S _ _ _) :: (73, I _) :: (72, B false) :: _) rfl <| q_ 76 (fun _ _ => op_add rfl rfl (a7 (by rw [dt l, df q] <;> rfl))) <| q_ 77 (fun _ c1 => oI 5 rfl rfl ((e.old c1).addr (J (by rw [dt l, df q] <;> rfl)).1 (J (by rw [dt l, df q] <;> rfl)).2) t.2.2 (J (by rw [dt l, df q] <;> rfl))) <| qF 78 rfl <| q_ 79 (fun _ c1 => oL (v := I ((ix p0 (a.2 + 1)).From)) ((e.old c1).cell0 (J (by rw [dt l, df q] <;> rfl)).1 (J (by rw [dt l, df q] <;> rfl)).2 rfl)) <| qa 3 ((82, B _) :: (81, B _) :: (80, B _) :: _) rfl <| lb 24 rfl (by rw [dt l, df q] <;> rfl)
           ·exact qa 17 ((82, B false) :: uz 81 15 ((66, B false) :: _)) rfl <| lb 24 rfl (by rw [df l] <;> rfl)
          refine xm_next <| cB rfl (fun a8 => ?_) (fun a8 => ?_)
          ·refine cm_region <| la 1 ((83, I _) :: _) rfl <| lm_ck (fun a9 => ?_)
           exact va 84 a9 rfl rfl <| la 1 ((9, I _) :: _) rfl <| lm_nil <| xm_inN <| xn () [0, 1]
          ·exact cm_skip <| xm_inN <| xn () [0, 1]
         intro V a2
         refine cm_region <| la 1 ((57, I _) :: _) rfl <| lm_ck (fun aa => ?_)
         exact va 58 aa rfl rfl <| la 1 ((10, I _) :: _) rfl <| lm_nil <| xn () [0, 1]
        ·exact cm_exit <| xm_thenE <| xm_lexit <| xm_here <| xn () [0, 1]
       intro i a0
       refine sr <| la 2 ((86, B _) :: (85, I _) :: _) rfl <| nn <| cc rfl (fun ab => ?_) (fun ab => ?_)
       ·refine cm_ck (fun K => ?_)
        refine cm_ck (fun L => ?_)
        refine cm_ck (fun ac => ?_)
        refine cm_ck (fun ad => ?_)
        refine cm_of_then <| cm_held (ξ := Hdr) (fun o => [(0, S x y C), (3, .pointer (some ⟨b5, 0, none⟩)), (7, S o.1 o.2.1 o.2.2), (8, I a.2)]) (fun o => [blkE b5 49 [I p1.From, I p1.To], ownE 100 5 encApiItem o.1 o.2.1 o.2.2 (a.1 ++ ([(ApiItem.mk 1 a.2 i ((ix p0 a.2).Base) (i * ((ix p0 a.2).Base)))]))]) [blkE b5 49 [I p1.From, I p1.To]] 19 (by kernel_rfl) (by rfl) (hsub [0] (by kernel_rfl) (by rfl)) ?_ ?_
        ·intro ao d
         refine wt 0 87 rfl (fun w2 c2 => (op_move (v := S _ _ _) rfl)) (hs [0] d) <| wt 1 88 rfl (fun w2 c2 => (op_move (v := I _) rfl)) (hs [0] d) <| wt 2 89 rfl (fun w2 c2 => (op_move (v := I _) rfl)) (hs [0] d) <| wt 3 90 rfl (fun w2 c2 => (op_move (v := S _ _ _) rfl)) (hs [0] d) <| wt 4 91 rfl (fun w2 c2 => (op_move (v := I _) rfl)) (hs [0] d) <| wt 5 92 rfl (fun w2 c2 => oI 5 rfl rfl ((e.old c2).addr K.1 K.2) t.2.2 K) (hs [0] d) <| wt 6 93 rfl (fun w2 c2 => (op_field (m := 1) rfl (by kernel_rfl))) (hs [0] d) <| wt 7 94 rfl (fun w2 c2 => (op_load (v := I ((ix p0 a.2).Base)) rfl (by kernel_rfl) ((e.old c2).cell (j := 1) K.1 K.2 rfl))) (hs [0] d) <| wt 8 95 rfl (fun w2 c2 => (op_move (v := I _) rfl)) (hs [0] d) <| wt 9 96 rfl (fun w2 c2 => (op_move (v := S _ _ _) rfl)) (hs [0] d) <| wt 10 97 rfl (fun w2 c2 => (op_move (v := I _) rfl)) (hs [0] d) <| wt 11 98 rfl (fun w2 c2 => oI 5 rfl rfl ((e.old c2).addr L.1 L.2) t.2.2 L) (hs [0] d) <| wt 12 99 rfl (fun w2 c2 => (op_field (m := 1) rfl (by kernel_rfl))) (hs [0] d) <| wt 13 100 rfl (fun w2 c2 => (op_load (v := I ((ix p0 a.2).Base)) rfl (by kernel_rfl) ((e.old c2).cell (j := 1) L.1 L.2 rfl))) (hs [0] d) <| wt 14 101 rfl (fun w2 c2 => (op_mul rfl rfl ac)) (hs [0] d) <| wt 15 102 rfl (fun w2 c2 => (op_build (z := [I 0, I 0, I 0, I 0, I 0]) (tab := [(0, 1), (1, 1), (2, 1), (3, 1), (4, 1)]) (cs := [I _, I _, I _, I _, I _]) [(0, [I _]), (1, [I _]), (2, [I _]), (3, [I _]), (4, [I _])] (by kernel_rfl) (by kernel_rfl) (fillOk_cons rfl rfl rfl (fillOk_cons rfl rfl rfl (fillOk_cons rfl rfl rfl (fillOk_cons rfl rfl rfl (fillOk_cons rfl rfl rfl fillOk_nil))))) rfl)) (hs [0] d) <| wh_ready [16] (by kernel_rfl) rfl ⟨?_, trivial⟩
         refine ws_sliceN 103 (el := 100) (sz := 5) (bytes := 40) (enc := encApiItem) [(ApiItem.mk 1 a.2 i ((ix p0 a.2).Base) (i * ((ix p0 a.2).Base)))] rfl (by kernel_rfl) (by kernel_rfl) encApiItem_len rfl ⟨rfl, rfl, trivial⟩ (by kernel_rfl) (by kernel_rfl) d fun ae af ag aq O => ⟨(hs [1] O), ?_⟩
         refine wh_strong (Hs w0 [ownE 100 5 encApiItem ae af ag ([(ApiItem.mk 1 a.2 i ((ix p0 a.2).Base) (i * ((ix p0 a.2).Base)))]), blkE b5 49 [I p1.From, I p1.To]]) (fun w2 c2 => hs [1] c2) <| wh_ready [17] (by kernel_rfl) rfl ⟨?_, trivial⟩
         refine ws_append 104 2 (el := 100) (sz := 5) (bytes := 40) (enc := encApiItem) (l2 := ([(ApiItem.mk 1 a.2 i ((ix p0 a.2).Base) (i * ((ix p0 a.2).Base)))])) rfl (by kernel_rfl) (by kernel_rfl) encApiItem_len encApiItem_one rfl rfl rfl (O.ownZ 0 rfl) (O.own 0 rfl encApiItem_len) ad (by kernel_rfl) O fun ah ai aj ar Y => ⟨(hs [0, 1] Y), ?_⟩
         exact wt 18 7 rfl (fun w2 c2 => (op_assign (v := S _ _ _) rfl)) (hs [0, 1] Y) <| wh_done (ah, ai, aj) (by kernel_rfl) sq (hs [1, 2] Y)
        intro o
        exact xm_of_then <| xm_inN <| xn (o.1, o.2.1, o.2.2) [0, 1]
       ·exact cm_skip <| xm_inN <| xn (b.1, b.2.1, b.2.2) [0, 1]
      intro U g
      refine cm_region <| la 1 ((49, I _) :: _) rfl <| lm_ck (fun ak => ?_)
      exact va 50 ak rfl rfl <| la 1 ((8, I _) :: _) rfl <| lm_nil <| xn (g.1, g.2.1, g.2.2) [0, 1]
     ·exact cm_exit <| xm_thenE <| xm_lexit <| xm_here <| xn (b.1, b.2.1, b.2.2) [1]
    intro Q f
    exact sr <| la 3 ((5, I _) :: (4, S _ _ _) :: (105, S _ _ _) :: _) rfl <| nn <| cm_ret <| xrr [0] (f.1, f.2.1, f.2.2)
end Go.Proofs.YtbnimhmoffchdaaGreatDoor
