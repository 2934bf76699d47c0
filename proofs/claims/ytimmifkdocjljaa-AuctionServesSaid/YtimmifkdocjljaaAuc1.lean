/- Models of functions, and that the code follows them. Written by deco.py. -/
import Derived.Test.YtimmifkdocjljaaDOps3
namespace Go.Proofs.Ytimmifkdocjljaa
open Go.RowKit

structure ApiBid where
  Bidder : Int
  Price : Int
  Count : Int
deriving DecidableEq, Inhabited
def encApiBid (x : ApiBid) : List Value := [.int .i64 x.Bidder, .int .i64 x.Price, .int .i64 x.Count]
theorem encApiBid_len (x : ApiBid) : (encApiBid x).length = 3 := rfl
theorem encApiBid_one (x : ApiBid) : (encApiBid x).all Value.oneCell' = true := rfl
structure ApiOutcome where
  Won : (List Int)
  Price : Int
deriving Inhabited
structure Recyclinglaw51Sale where
  Supply : Int
  Reserve : Int
  Outcome : ApiOutcome
deriving Inhabited
structure Arr4Int where
  E0 : Int
  E1 : Int
  E2 : Int
  E3 : Int
deriving DecidableEq, Inhabited
def encArr4Int (x : Arr4Int) : List Value := [.int .i64 x.E0, .int .i64 x.E1, .int .i64 x.E2, .int .i64 x.E3]
theorem encArr4Int_len (x : Arr4Int) : (encArr4Int x).length = 4 := rfl
theorem encArr4Int_one (x : Arr4Int) : (encArr4Int x).all Value.oneCell' = true := rfl
structure Arr3Int where
  E0 : Int
  E1 : Int
  E2 : Int
deriving DecidableEq, Inhabited
def encArr3Int (x : Arr3Int) : List Value := [.int .i64 x.E0, .int .i64 x.E1, .int .i64 x.E2]
theorem encArr3Int_len (x : Arr3Int) : (encArr3Int x).length = 3 := rfl
theorem encArr3Int_one (x : Arr3Int) : (encArr3Int x).all Value.oneCell' = true := rfl
structure AuctionUnit where
  price_ : Int
  bid_ : Int
deriving DecidableEq, Inhabited
def encAuctionUnit (x : AuctionUnit) : List Value := [.int .i64 x.price_, .int .i64 x.bid_]
theorem encAuctionUnit_len (x : AuctionUnit) : (encAuctionUnit x).length = 2 := rfl
theorem encAuctionUnit_one (x : AuctionUnit) : (encAuctionUnit x).all Value.oneCell' = true := rfl
/-- recyclingref51.Check -/
def m_recyclingref51_Check (N : Nat) (p0 : (List ApiBid)) : Option (Int) :=
  (if 64 < (List.length p0 : Int) then
    some ((8 : Int))
  else
    (andThen
      (loopM (fun (s84 : Int) =>
        (if s84 < (List.length p0 : Int) then
          ck ((0 : Int) ≤ s84 ∧ s84 < (List.length p0 : Int)) (
            ck ((!(decide ((ix p0 s84).Bidder < 0))) = true → (0 : Int) ≤ s84 ∧ s84 < (List.length p0 : Int)) (
              (if ((decide ((ix p0 s84).Bidder < 0)) || (decide (1000000 < (ix p0 s84).Bidder))) = true then
                some (.done (.done ((1 : Int))))
              else
                ck ((0 : Int) ≤ s84 ∧ s84 < (List.length p0 : Int)) (
                  ck ((!(decide ((ix p0 s84).Price < 0))) = true → (0 : Int) ≤ s84 ∧ s84 < (List.length p0 : Int)) (
                    ck ((!((decide ((ix p0 s84).Price < 0)) || (decide (1000000 < (ix p0 s84).Price)))) = true → (0 : Int) ≤ s84 ∧ s84 < (List.length p0 : Int)) (
                      ck ((!(((decide ((ix p0 s84).Price < 0)) || (decide (1000000 < (ix p0 s84).Price))) || (decide ((ix p0 s84).Count < 1)))) = true → (0 : Int) ≤ s84 ∧ s84 < (List.length p0 : Int)) (
                        (if ((((decide ((ix p0 s84).Price < 0)) || (decide (1000000 < (ix p0 s84).Price))) || (decide ((ix p0 s84).Count < 1))) || (decide (100 < (ix p0 s84).Count))) = true then
                          some (.done (.done ((33 : Int))))
                        else
                          ck (I64 (s84 + (1 : Int))) (
                            some (.next (s84 + (1 : Int))))))))))))
        else
          some (.done (.next ())))) N (0 : Int))
    fun (_s50 : Unit) =>
      (andThen
        (loopM (fun (s342 : Int) =>
          (if s342 < (List.length p0 : Int) then
            (andThen
              (loopM (fun (s382 : Int) =>
                (if s382 < s342 then
                  ck ((0 : Int) ≤ s342 ∧ s342 < (List.length p0 : Int)) (
                    ck ((0 : Int) ≤ s382 ∧ s382 < (List.length p0 : Int)) (
                      (if (ix p0 s342).Bidder = (ix p0 s382).Bidder then
                        some (.done (.done (.done (.done ((6 : Int))))))
                      else
                        ck (I64 (s382 + (1 : Int))) (
                          some (.next (s382 + (1 : Int)))))))
                else
                  some (.done (.next ())))) N (0 : Int))
            fun (_s366 : Unit) =>
              ck (I64 (s342 + (1 : Int))) (
                some (.next (s342 + (1 : Int)))))
          else
            some (.done (.next ())))) N (0 : Int))
      fun (_s244 : Unit) =>
        some ((0 : Int)))))
set_option maxRecDepth 20000 in
theorem m_recyclingref51_Check_ok (N : Nat) (w0 : World) (p0 : (List ApiBid)) (A_p0 : Option Addr) (n_p0 c_p0 : Nat) (hr_p0 : RdE w0 3 encApiBid A_p0 p0) (hz_p0 : SW A_p0 n_p0 c_p0 (List.length p0)) (r : Int) (hr : m_recyclingref51_Check N p0 = some r) :
    Calls Try.prog 13 [.slice A_p0 n_p0 c_p0].toArray w0 fun x w1 => ∃ u, x = .returned ((fun (r : Int) (_u : Unit) => .int .i64 r) r u) ∧ Hs w0 ((fun (_r : Int) (_u : Unit) => []) r u) w1 := by
  refine calls_cm (n := 81) (R := fun r x w1 => ∃ u, x = .returned ((fun (r : Int) (_u : Unit) => .int .i64 r) r u) ∧ Hs w0 ((fun (_r : Int) (_u : Unit) => []) r u) w1) Try.func13 rfl rfl (Nat.le_of_ble_eq_true rfl) ?_ r hr
  unfold m_recyclingref51_Check
  refine cm_seq ?_
  refine cm_region ?_
  refine lm_val 2 (by kernel_rfl) (fun w1 c1 => (op_assign (v := .int .i64 _) rfl)) ?_
  refine lm_nil ?_
  refine xm_next ?_
  refine cm_seq ?_
  refine cm_seq ?_
  refine cm_region ?_
  refine lm_val 6 (by kernel_rfl) (fun w1 c1 => (op_move (v := .slice _ _ _) rfl)) ?_
  refine lm_val 7 (by kernel_rfl) (fun w1 c1 => (op_lenN rfl (by kernel_rfl) hz_p0.2.2)) ?_
  refine lm_val 8 (by kernel_rfl) (fun w1 c1 => (op_gtr rfl rfl)) ?_
  refine lm_nil ?_
  refine xm_next ?_
  refine cm_cond (by kernel_rfl) rfl (fun h1 => ?_) (fun h1 => ?_)
  · skip
    refine cm_seq ?_
    refine cm_region ?_
    refine lm_val 2 (by kernel_rfl) (fun w1 c1 => (op_assign (v := .int .i64 _) rfl)) ?_
    refine lm_nil ?_
    refine xm_next ?_
    refine cm_ret ?_
    refine xm_thenR ?_
    exact xm_retT rfl (by kernel_rfl) (show _ = Value.int .i64 _ from rfl) fun w1 c1 => ⟨(), rfl, hsub [] (by kernel_rfl) rfl w1 c1⟩
  · skip
    refine cm_skip ?_
    refine xm_next ?_
    refine cm_join (σ := Unit) (ξ := Unit) (fun s50 u51 => [(0, .slice A_p0 n_p0 c_p0)]) (fun s50 u51 => []) ?_ ?_
    · skip
      refine cm_seq ?_
      refine cm_region ?_
      refine lm_val 3 (by kernel_rfl) (fun w1 c1 => (op_assign (v := .int .i64 _) rfl)) ?_
      refine lm_nil ?_
      refine xm_next ?_
      refine cm_block ?_
      refine cm_loop (σ := Int) (ξ := Unit) (fun s84 u85 => [(0, .slice A_p0 n_p0 c_p0), (3, .int .i64 s84)]) (fun s84 u85 => []) () ?_ ?_ ?_
      · exact (sub_cons (by kernel_rfl) rfl (sub_cons (by kernel_rfl) rfl sub_nil))
      · exact hsub [] (by kernel_rfl) rfl
      intro s84 u85
      refine cm_seq ?_
      refine cm_seq ?_
      refine cm_region ?_
      refine lm_val 9 (by kernel_rfl) (fun w1 c1 => (op_move (v := .int .i64 _) rfl)) ?_
      refine lm_val 10 (by kernel_rfl) (fun w1 c1 => (op_move (v := .slice _ _ _) rfl)) ?_
      refine lm_val 11 (by kernel_rfl) (fun w1 c1 => (op_lenN rfl (by kernel_rfl) hz_p0.2.2)) ?_
      refine lm_val 12 (by kernel_rfl) (fun w1 c1 => (op_lss rfl rfl)) ?_
      refine lm_nil ?_
      refine xm_next ?_
      refine cm_cond (by kernel_rfl) rfl (fun h86 => ?_) (fun h86 => ?_)
      · skip
        refine cm_skip ?_
        refine xm_next ?_
        refine cm_seq ?_
        refine cm_block ?_
        refine cm_seq ?_
        refine cm_seq ?_
        refine cm_ck (fun h87 => ?_)
        refine cm_ck (fun h88 => ?_)
        refine cm_cutE [(28, .bool ((decide ((ix p0 s84).Bidder < 0)) || (decide (1000000 < (ix p0 s84).Bidder))))] ?_ ?_
        · skip
          refine wq_val 15 (by kernel_rfl) (fun w1 c1 => (op_move (v := .slice _ _ _) rfl)) ?_
          refine wq_val 16 (by kernel_rfl) (fun w1 c1 => (op_move (v := .int .i64 _) rfl)) ?_
          refine wq_val 17 (by kernel_rfl) (fun w1 c1 => (op_indexA 3 rfl rfl (by kernel_rfl) ((hr_p0.old c1).addr h87.1 h87.2) hz_p0.2.2 h87.1 h87.2)) ?_
          refine wq_val 18 (by kernel_rfl) (fun w1 c1 => (op_field0 rfl (by kernel_rfl))) ?_
          refine wq_val 19 (by kernel_rfl) (fun w1 c1 => (op_load (v := .int .i64 ((ix p0 s84).Bidder)) rfl (by kernel_rfl) ((hr_p0.old c1).cell0 h87.1 h87.2 rfl))) ?_
          refine wq_dec 20 (by kernel_rfl) (fun w1 c1 => (op_lss rfl rfl)) (fun h89 => ?_) (fun h89 => ?_)
          · skip
            refine wq_val 21 (by kernel_rfl) (fun w1 c1 => (op_move (v := .bool true) rfl)) ?_
            refine wq_skip 22 (by kernel_rfl) ?_
            refine wq_skip 23 (by kernel_rfl) ?_
            refine wq_skip 24 (by kernel_rfl) ?_
            refine wq_skip 25 (by kernel_rfl) ?_
            refine wq_skip 26 (by kernel_rfl) ?_
            refine wq_skip 27 (by kernel_rfl) ?_
            refine wq_val 28 (by kernel_rfl) (fun w1 c1 => (op_pick_t (v := .bool true) rfl rfl)) ?_
            exact leaf_q (sub_out 14 _ rfl (by kernel_rfl) ⟨(congrArg Value.bool (by rw [decide_eq_true h89] <;> rfl)), trivial⟩)
          · skip
            refine wq_val 21 (by kernel_rfl) (fun w1 c1 => (op_move (v := .bool false) rfl)) ?_
            refine wq_val 22 (by kernel_rfl) (fun w1 c1 => (op_move (v := .slice _ _ _) rfl)) ?_
            refine wq_val 23 (by kernel_rfl) (fun w1 c1 => (op_move (v := .int .i64 _) rfl)) ?_
            refine wq_val 24 (by kernel_rfl) (fun w1 c1 => (op_indexA 3 rfl rfl (by kernel_rfl) ((hr_p0.old c1).addr (h88 (by rw [decide_eq_false h89] <;> rfl)).1 (h88 (by rw [decide_eq_false h89] <;> rfl)).2) hz_p0.2.2 (h88 (by rw [decide_eq_false h89] <;> rfl)).1 (h88 (by rw [decide_eq_false h89] <;> rfl)).2)) ?_
            refine wq_val 25 (by kernel_rfl) (fun w1 c1 => (op_field0 rfl (by kernel_rfl))) ?_
            refine wq_val 26 (by kernel_rfl) (fun w1 c1 => (op_load (v := .int .i64 ((ix p0 s84).Bidder)) rfl (by kernel_rfl) ((hr_p0.old c1).cell0 (h88 (by rw [decide_eq_false h89] <;> rfl)).1 (h88 (by rw [decide_eq_false h89] <;> rfl)).2 rfl))) ?_
            refine wq_val 27 (by kernel_rfl) (fun w1 c1 => (op_gtr rfl rfl)) ?_
            refine wq_val 28 (by kernel_rfl) (fun w1 c1 => (op_pick_f (v := .bool _) rfl rfl)) ?_
            exact leaf_q (sub_out 14 _ rfl (by kernel_rfl) ⟨(congrArg Value.bool (by rw [decide_eq_false h89] <;> rfl)), trivial⟩)
        refine xm_next ?_
        refine cm_condB (by kernel_rfl) rfl (fun h90 => ?_) (fun h90 => ?_)
        · skip
          refine cm_seq ?_
          refine cm_region ?_
          refine lm_val 2 (by kernel_rfl) (fun w1 c1 => (op_assign (v := .int .i64 _) rfl)) ?_
          refine lm_nil ?_
          refine xm_next ?_
          refine cm_ret ?_
          refine xm_thenR ?_
          refine xm_inR ?_
          refine xm_thenR ?_
          refine xm_lret ?_
          refine xm_inR ?_
          refine xm_lret ?_
          exact xm_retT rfl (by kernel_rfl) (show _ = Value.int .i64 _ from rfl) fun w1 c1 => ⟨(), rfl, hsub [] (by kernel_rfl) rfl w1 c1⟩
        · skip
          refine cm_skip ?_
          refine xm_next ?_
          refine cm_seq ?_
          refine cm_ck (fun h91 => ?_)
          refine cm_ck (fun h92 => ?_)
          refine cm_ck (fun h93 => ?_)
          refine cm_ck (fun h94 => ?_)
          refine cm_cutE [(58, .bool ((((decide ((ix p0 s84).Price < 0)) || (decide (1000000 < (ix p0 s84).Price))) || (decide ((ix p0 s84).Count < 1))) || (decide (100 < (ix p0 s84).Count))))] ?_ ?_
          · skip
            refine wq_val 29 (by kernel_rfl) (fun w1 c1 => (op_move (v := .slice _ _ _) rfl)) ?_
            refine wq_val 30 (by kernel_rfl) (fun w1 c1 => (op_move (v := .int .i64 _) rfl)) ?_
            refine wq_val 31 (by kernel_rfl) (fun w1 c1 => (op_indexA 3 rfl rfl (by kernel_rfl) ((hr_p0.old c1).addr h91.1 h91.2) hz_p0.2.2 h91.1 h91.2)) ?_
            refine wq_val 32 (by kernel_rfl) (fun w1 c1 => (op_field (m := 1) rfl (by kernel_rfl))) ?_
            refine wq_val 33 (by kernel_rfl) (fun w1 c1 => (op_load (v := .int .i64 ((ix p0 s84).Price)) rfl (by kernel_rfl) ((hr_p0.old c1).cell (j := 1) h91.1 h91.2 rfl))) ?_
            refine wq_dec 34 (by kernel_rfl) (fun w1 c1 => (op_lss rfl rfl)) (fun h95 => ?_) (fun h95 => ?_)
            · skip
              refine wq_val 35 (by kernel_rfl) (fun w1 c1 => (op_move (v := .bool true) rfl)) ?_
              refine wq_skip 36 (by kernel_rfl) ?_
              refine wq_skip 37 (by kernel_rfl) ?_
              refine wq_skip 38 (by kernel_rfl) ?_
              refine wq_skip 39 (by kernel_rfl) ?_
              refine wq_skip 40 (by kernel_rfl) ?_
              refine wq_skip 41 (by kernel_rfl) ?_
              refine wq_val 42 (by kernel_rfl) (fun w1 c1 => (op_pick_t (v := .bool true) rfl rfl)) ?_
              refine wq_val 43 (by kernel_rfl) (fun w1 c1 => (op_move (v := .bool true) rfl)) ?_
              refine wq_skip 44 (by kernel_rfl) ?_
              refine wq_skip 45 (by kernel_rfl) ?_
              refine wq_skip 46 (by kernel_rfl) ?_
              refine wq_skip 47 (by kernel_rfl) ?_
              refine wq_skip 48 (by kernel_rfl) ?_
              refine wq_skip 49 (by kernel_rfl) ?_
              refine wq_val 50 (by kernel_rfl) (fun w1 c1 => (op_pick_t (v := .bool true) rfl rfl)) ?_
              refine wq_val 51 (by kernel_rfl) (fun w1 c1 => (op_move (v := .bool true) rfl)) ?_
              refine wq_skip 52 (by kernel_rfl) ?_
              refine wq_skip 53 (by kernel_rfl) ?_
              refine wq_skip 54 (by kernel_rfl) ?_
              refine wq_skip 55 (by kernel_rfl) ?_
              refine wq_skip 56 (by kernel_rfl) ?_
              refine wq_skip 57 (by kernel_rfl) ?_
              refine wq_val 58 (by kernel_rfl) (fun w1 c1 => (op_pick_t (v := .bool true) rfl rfl)) ?_
              exact leaf_q (sub_out 30 _ rfl (by kernel_rfl) ⟨(congrArg Value.bool (by rw [decide_eq_true h95] <;> rfl)), trivial⟩)
            · skip
              refine wq_val 35 (by kernel_rfl) (fun w1 c1 => (op_move (v := .bool false) rfl)) ?_
              refine wq_val 36 (by kernel_rfl) (fun w1 c1 => (op_move (v := .slice _ _ _) rfl)) ?_
              refine wq_val 37 (by kernel_rfl) (fun w1 c1 => (op_move (v := .int .i64 _) rfl)) ?_
              refine wq_val 38 (by kernel_rfl) (fun w1 c1 => (op_indexA 3 rfl rfl (by kernel_rfl) ((hr_p0.old c1).addr (h92 (by rw [decide_eq_false h95] <;> rfl)).1 (h92 (by rw [decide_eq_false h95] <;> rfl)).2) hz_p0.2.2 (h92 (by rw [decide_eq_false h95] <;> rfl)).1 (h92 (by rw [decide_eq_false h95] <;> rfl)).2)) ?_
              refine wq_val 39 (by kernel_rfl) (fun w1 c1 => (op_field (m := 1) rfl (by kernel_rfl))) ?_
              refine wq_val 40 (by kernel_rfl) (fun w1 c1 => (op_load (v := .int .i64 ((ix p0 s84).Price)) rfl (by kernel_rfl) ((hr_p0.old c1).cell (j := 1) (h92 (by rw [decide_eq_false h95] <;> rfl)).1 (h92 (by rw [decide_eq_false h95] <;> rfl)).2 rfl))) ?_
              refine wq_dec 41 (by kernel_rfl) (fun w1 c1 => (op_gtr rfl rfl)) (fun h96 => ?_) (fun h96 => ?_)
              · skip
                refine wq_val 42 (by kernel_rfl) (fun w1 c1 => (op_pick_f (v := .bool true) rfl rfl)) ?_
                refine wq_val 43 (by kernel_rfl) (fun w1 c1 => (op_move (v := .bool true) rfl)) ?_
                refine wq_skip 44 (by kernel_rfl) ?_
                refine wq_skip 45 (by kernel_rfl) ?_
                refine wq_skip 46 (by kernel_rfl) ?_
                refine wq_skip 47 (by kernel_rfl) ?_
                refine wq_skip 48 (by kernel_rfl) ?_
                refine wq_skip 49 (by kernel_rfl) ?_
                refine wq_val 50 (by kernel_rfl) (fun w1 c1 => (op_pick_t (v := .bool true) rfl rfl)) ?_
                refine wq_val 51 (by kernel_rfl) (fun w1 c1 => (op_move (v := .bool true) rfl)) ?_
                refine wq_skip 52 (by kernel_rfl) ?_
                refine wq_skip 53 (by kernel_rfl) ?_
                refine wq_skip 54 (by kernel_rfl) ?_
                refine wq_skip 55 (by kernel_rfl) ?_
                refine wq_skip 56 (by kernel_rfl) ?_
                refine wq_skip 57 (by kernel_rfl) ?_
                refine wq_val 58 (by kernel_rfl) (fun w1 c1 => (op_pick_t (v := .bool true) rfl rfl)) ?_
                exact leaf_q (sub_out 30 _ rfl (by kernel_rfl) ⟨(congrArg Value.bool (by rw [decide_eq_false h95, decide_eq_true h96] <;> rfl)), trivial⟩)
              · skip
                refine wq_val 42 (by kernel_rfl) (fun w1 c1 => (op_pick_f (v := .bool false) rfl rfl)) ?_
                refine wq_val 43 (by kernel_rfl) (fun w1 c1 => (op_move (v := .bool false) rfl)) ?_
                refine wq_val 44 (by kernel_rfl) (fun w1 c1 => (op_move (v := .slice _ _ _) rfl)) ?_
                refine wq_val 45 (by kernel_rfl) (fun w1 c1 => (op_move (v := .int .i64 _) rfl)) ?_
                refine wq_val 46 (by kernel_rfl) (fun w1 c1 => (op_indexA 3 rfl rfl (by kernel_rfl) ((hr_p0.old c1).addr (h93 (by rw [decide_eq_false h95, decide_eq_false h96] <;> rfl)).1 (h93 (by rw [decide_eq_false h95, decide_eq_false h96] <;> rfl)).2) hz_p0.2.2 (h93 (by rw [decide_eq_false h95, decide_eq_false h96] <;> rfl)).1 (h93 (by rw [decide_eq_false h95, decide_eq_false h96] <;> rfl)).2)) ?_
                refine wq_val 47 (by kernel_rfl) (fun w1 c1 => (op_field (m := 2) rfl (by kernel_rfl))) ?_
                refine wq_val 48 (by kernel_rfl) (fun w1 c1 => (op_load (v := .int .i64 ((ix p0 s84).Count)) rfl (by kernel_rfl) ((hr_p0.old c1).cell (j := 2) (h93 (by rw [decide_eq_false h95, decide_eq_false h96] <;> rfl)).1 (h93 (by rw [decide_eq_false h95, decide_eq_false h96] <;> rfl)).2 rfl))) ?_
                refine wq_dec 49 (by kernel_rfl) (fun w1 c1 => (op_lss rfl rfl)) (fun h97 => ?_) (fun h97 => ?_)
                · skip
                  refine wq_val 50 (by kernel_rfl) (fun w1 c1 => (op_pick_f (v := .bool true) rfl rfl)) ?_
                  refine wq_val 51 (by kernel_rfl) (fun w1 c1 => (op_move (v := .bool true) rfl)) ?_
                  refine wq_skip 52 (by kernel_rfl) ?_
                  refine wq_skip 53 (by kernel_rfl) ?_
                  refine wq_skip 54 (by kernel_rfl) ?_
                  refine wq_skip 55 (by kernel_rfl) ?_
                  refine wq_skip 56 (by kernel_rfl) ?_
                  refine wq_skip 57 (by kernel_rfl) ?_
                  refine wq_val 58 (by kernel_rfl) (fun w1 c1 => (op_pick_t (v := .bool true) rfl rfl)) ?_
                  exact leaf_q (sub_out 30 _ rfl (by kernel_rfl) ⟨(congrArg Value.bool (by rw [decide_eq_false h95, decide_eq_false h96, decide_eq_true h97] <;> rfl)), trivial⟩)
                · skip
                  refine wq_val 50 (by kernel_rfl) (fun w1 c1 => (op_pick_f (v := .bool false) rfl rfl)) ?_
                  refine wq_val 51 (by kernel_rfl) (fun w1 c1 => (op_move (v := .bool false) rfl)) ?_
                  refine wq_val 52 (by kernel_rfl) (fun w1 c1 => (op_move (v := .slice _ _ _) rfl)) ?_
                  refine wq_val 53 (by kernel_rfl) (fun w1 c1 => (op_move (v := .int .i64 _) rfl)) ?_
                  refine wq_val 54 (by kernel_rfl) (fun w1 c1 => (op_indexA 3 rfl rfl (by kernel_rfl) ((hr_p0.old c1).addr (h94 (by rw [decide_eq_false h95, decide_eq_false h96, decide_eq_false h97] <;> rfl)).1 (h94 (by rw [decide_eq_false h95, decide_eq_false h96, decide_eq_false h97] <;> rfl)).2) hz_p0.2.2 (h94 (by rw [decide_eq_false h95, decide_eq_false h96, decide_eq_false h97] <;> rfl)).1 (h94 (by rw [decide_eq_false h95, decide_eq_false h96, decide_eq_false h97] <;> rfl)).2)) ?_
                  refine wq_val 55 (by kernel_rfl) (fun w1 c1 => (op_field (m := 2) rfl (by kernel_rfl))) ?_
                  refine wq_val 56 (by kernel_rfl) (fun w1 c1 => (op_load (v := .int .i64 ((ix p0 s84).Count)) rfl (by kernel_rfl) ((hr_p0.old c1).cell (j := 2) (h94 (by rw [decide_eq_false h95, decide_eq_false h96, decide_eq_false h97] <;> rfl)).1 (h94 (by rw [decide_eq_false h95, decide_eq_false h96, decide_eq_false h97] <;> rfl)).2 rfl))) ?_
                  refine wq_val 57 (by kernel_rfl) (fun w1 c1 => (op_gtr rfl rfl)) ?_
                  refine wq_val 58 (by kernel_rfl) (fun w1 c1 => (op_pick_f (v := .bool _) rfl rfl)) ?_
                  exact leaf_q (sub_out 30 _ rfl (by kernel_rfl) ⟨(congrArg Value.bool (by rw [decide_eq_false h95, decide_eq_false h96, decide_eq_false h97] <;> rfl)), trivial⟩)
          refine xm_next ?_
          refine cm_condB (by kernel_rfl) rfl (fun h98 => ?_) (fun h98 => ?_)
          · skip
            refine cm_seq ?_
            refine cm_region ?_
            refine lm_val 2 (by kernel_rfl) (fun w1 c1 => (op_assign (v := .int .i64 _) rfl)) ?_
            refine lm_nil ?_
            refine xm_next ?_
            refine cm_ret ?_
            refine xm_inR ?_
            refine xm_thenR ?_
            refine xm_lret ?_
            refine xm_inR ?_
            refine xm_lret ?_
            exact xm_retT rfl (by kernel_rfl) (show _ = Value.int .i64 _ from rfl) fun w1 c1 => ⟨(), rfl, hsub [] (by kernel_rfl) rfl w1 c1⟩
          · skip
            refine cm_skip ?_
            refine xm_inN ?_
            refine xm_next ?_
            refine cm_region ?_
            refine lm_val 13 (by kernel_rfl) (fun w1 c1 => (op_move (v := .int .i64 _) rfl)) ?_
            refine lm_ck (fun h99 => ?_)
            refine lm_val 14 (by kernel_rfl) (fun w1 c1 => (op_add rfl rfl h99)) ?_
            refine lm_val 3 (by kernel_rfl) (fun w1 c1 => (op_assign (v := .int .i64 _) rfl)) ?_
            refine lm_nil ?_
            exact xm_lnext () (sub_cons (by kernel_rfl) rfl (sub_cons (by kernel_rfl) rfl sub_nil)) (hsub [] (by kernel_rfl) rfl)
      · skip
        refine cm_exit ?_
        refine xm_thenE ?_
        refine xm_lexit ?_
        refine xm_here ?_
        exact xm_lnext () (sub_cons (by kernel_rfl) rfl sub_nil) (hsub [] (by kernel_rfl) rfl)
    intro s50 u51
    refine cm_join (σ := Unit) (ξ := Unit) (fun s244 u245 => []) (fun s244 u245 => []) ?_ ?_
    · skip
      refine cm_seq ?_
      refine cm_region ?_
      refine lm_val 4 (by kernel_rfl) (fun w1 c1 => (op_assign (v := .int .i64 _) rfl)) ?_
      refine lm_nil ?_
      refine xm_next ?_
      refine cm_block ?_
      refine cm_loop (σ := Int) (ξ := Unit) (fun s342 u343 => [(0, .slice A_p0 n_p0 c_p0), (4, .int .i64 s342)]) (fun s342 u343 => []) () ?_ ?_ ?_
      · exact (sub_cons (by kernel_rfl) rfl (sub_cons (by kernel_rfl) rfl sub_nil))
      · exact hsub [] (by kernel_rfl) rfl
      intro s342 u343
      refine cm_seq ?_
      refine cm_seq ?_
      refine cm_region ?_
      refine lm_val 59 (by kernel_rfl) (fun w1 c1 => (op_move (v := .int .i64 _) rfl)) ?_
      refine lm_val 60 (by kernel_rfl) (fun w1 c1 => (op_move (v := .slice _ _ _) rfl)) ?_
      refine lm_val 61 (by kernel_rfl) (fun w1 c1 => (op_lenN rfl (by kernel_rfl) hz_p0.2.2)) ?_
      refine lm_val 62 (by kernel_rfl) (fun w1 c1 => (op_lss rfl rfl)) ?_
      refine lm_nil ?_
      refine xm_next ?_
      refine cm_cond (by kernel_rfl) rfl (fun h344 => ?_) (fun h344 => ?_)
      · skip
        refine cm_skip ?_
        refine xm_next ?_
        refine cm_join (σ := Unit) (ξ := Unit) (fun s366 u367 => [(0, .slice A_p0 n_p0 c_p0), (4, .int .i64 s342)]) (fun s366 u367 => []) ?_ ?_
        · skip
          refine cm_block ?_
          refine cm_seq ?_
          refine cm_region ?_
          refine lm_val 5 (by kernel_rfl) (fun w1 c1 => (op_assign (v := .int .i64 _) rfl)) ?_
          refine lm_nil ?_
          refine xm_next ?_
          refine cm_block ?_
          refine cm_loop (σ := Int) (ξ := Unit) (fun s382 u383 => [(0, .slice A_p0 n_p0 c_p0), (4, .int .i64 s342), (5, .int .i64 s382)]) (fun s382 u383 => []) () ?_ ?_ ?_
          · exact (sub_cons (by kernel_rfl) rfl (sub_cons (by kernel_rfl) rfl (sub_cons (by kernel_rfl) rfl sub_nil)))
          · exact hsub [] (by kernel_rfl) rfl
          intro s382 u383
          refine cm_seq ?_
          refine cm_seq ?_
          refine cm_region ?_
          refine lm_val 65 (by kernel_rfl) (fun w1 c1 => (op_move (v := .int .i64 _) rfl)) ?_
          refine lm_val 66 (by kernel_rfl) (fun w1 c1 => (op_move (v := .int .i64 _) rfl)) ?_
          refine lm_val 67 (by kernel_rfl) (fun w1 c1 => (op_lss rfl rfl)) ?_
          refine lm_nil ?_
          refine xm_next ?_
          refine cm_cond (by kernel_rfl) rfl (fun h384 => ?_) (fun h384 => ?_)
          · skip
            refine cm_skip ?_
            refine xm_next ?_
            refine cm_seq ?_
            refine cm_block ?_
            refine cm_seq ?_
            refine cm_ck (fun h385 => ?_)
            refine cm_ck (fun h386 => ?_)
            refine cm_drawn [(80, .bool (decide ((ix p0 s342).Bidder = (ix p0 s382).Bidder)))] (by kernel_rfl) (by kernel_rfl) ?_ ?_
            · skip
              refine wq_val 70 (by kernel_rfl) (fun w1 c1 => (op_move (v := .slice _ _ _) rfl)) ?_
              refine wq_val 71 (by kernel_rfl) (fun w1 c1 => (op_move (v := .int .i64 _) rfl)) ?_
              refine wq_val 72 (by kernel_rfl) (fun w1 c1 => (op_indexA 3 rfl rfl (by kernel_rfl) ((hr_p0.old c1).addr h385.1 h385.2) hz_p0.2.2 h385.1 h385.2)) ?_
              refine wq_val 73 (by kernel_rfl) (fun w1 c1 => (op_field0 rfl (by kernel_rfl))) ?_
              refine wq_val 74 (by kernel_rfl) (fun w1 c1 => (op_load (v := .int .i64 ((ix p0 s342).Bidder)) rfl (by kernel_rfl) ((hr_p0.old c1).cell0 h385.1 h385.2 rfl))) ?_
              refine wq_val 75 (by kernel_rfl) (fun w1 c1 => (op_move (v := .slice _ _ _) rfl)) ?_
              refine wq_val 76 (by kernel_rfl) (fun w1 c1 => (op_move (v := .int .i64 _) rfl)) ?_
              refine wq_val 77 (by kernel_rfl) (fun w1 c1 => (op_indexA 3 rfl rfl (by kernel_rfl) ((hr_p0.old c1).addr h386.1 h386.2) hz_p0.2.2 h386.1 h386.2)) ?_
              refine wq_val 78 (by kernel_rfl) (fun w1 c1 => (op_field0 rfl (by kernel_rfl))) ?_
              refine wq_val 79 (by kernel_rfl) (fun w1 c1 => (op_load (v := .int .i64 ((ix p0 s382).Bidder)) rfl (by kernel_rfl) ((hr_p0.old c1).cell0 h386.1 h386.2 rfl))) ?_
              refine wq_val 80 (by kernel_rfl) (fun w1 c1 => (op_eql rfl rfl)) ?_
              exact leaf_q (sub_out 11 _ rfl (by kernel_rfl) ⟨rfl, trivial⟩)
            refine xm_next ?_
            refine cm_cond (by kernel_rfl) rfl (fun h387 => ?_) (fun h387 => ?_)
            · skip
              refine cm_seq ?_
              refine cm_region ?_
              refine lm_val 2 (by kernel_rfl) (fun w1 c1 => (op_assign (v := .int .i64 _) rfl)) ?_
              refine lm_nil ?_
              refine xm_next ?_
              refine cm_ret ?_
              refine xm_inR ?_
              refine xm_thenR ?_
              refine xm_lret ?_
              refine xm_inR ?_
              refine xm_inR ?_
              refine xm_lret ?_
              refine xm_lret ?_
              refine xm_inR ?_
              refine xm_lret ?_
              exact xm_retT rfl (by kernel_rfl) (show _ = Value.int .i64 _ from rfl) fun w1 c1 => ⟨(), rfl, hsub [] (by kernel_rfl) rfl w1 c1⟩
            · skip
              refine cm_skip ?_
              refine xm_inN ?_
              refine xm_next ?_
              refine cm_region ?_
              refine lm_val 68 (by kernel_rfl) (fun w1 c1 => (op_move (v := .int .i64 _) rfl)) ?_
              refine lm_ck (fun h388 => ?_)
              refine lm_val 69 (by kernel_rfl) (fun w1 c1 => (op_add rfl rfl h388)) ?_
              refine lm_val 5 (by kernel_rfl) (fun w1 c1 => (op_assign (v := .int .i64 _) rfl)) ?_
              refine lm_nil ?_
              exact xm_lnext () (sub_cons (by kernel_rfl) rfl (sub_cons (by kernel_rfl) rfl (sub_cons (by kernel_rfl) rfl sub_nil))) (hsub [] (by kernel_rfl) rfl)
          · skip
            refine cm_exit ?_
            refine xm_thenE ?_
            refine xm_lexit ?_
            refine xm_here ?_
            refine xm_inN ?_
            exact xm_lnext () (sub_cons (by kernel_rfl) rfl (sub_cons (by kernel_rfl) rfl sub_nil)) (hsub [] (by kernel_rfl) rfl)
        intro s366 u367
        refine cm_region ?_
        refine lm_val 63 (by kernel_rfl) (fun w1 c1 => (op_move (v := .int .i64 _) rfl)) ?_
        refine lm_ck (fun h389 => ?_)
        refine lm_val 64 (by kernel_rfl) (fun w1 c1 => (op_add rfl rfl h389)) ?_
        refine lm_val 4 (by kernel_rfl) (fun w1 c1 => (op_assign (v := .int .i64 _) rfl)) ?_
        refine lm_nil ?_
        exact xm_lnext () (sub_cons (by kernel_rfl) rfl (sub_cons (by kernel_rfl) rfl sub_nil)) (hsub [] (by kernel_rfl) rfl)
      · skip
        refine cm_exit ?_
        refine xm_thenE ?_
        refine xm_lexit ?_
        refine xm_here ?_
        exact xm_lnext () sub_nil (hsub [] (by kernel_rfl) rfl)
    intro s244 u245
    refine cm_seq ?_
    refine cm_region ?_
    refine lm_val 2 (by kernel_rfl) (fun w1 c1 => (op_assign (v := .int .i64 _) rfl)) ?_
    refine lm_nil ?_
    refine xm_next ?_
    refine cm_ret ?_
    exact xm_retT rfl (by kernel_rfl) (show _ = Value.int .i64 _ from rfl) fun w1 c1 => ⟨(), rfl, hsub [] (by kernel_rfl) rfl w1 c1⟩
/-- recyclingref51.next -/
def m_recyclingref51_next (N : Nat) (p0 : (List ApiBid)) (p1 : (List Int)) (p2 : Int) : Option (Int) :=
  (andThen
    (loopM (fun (s123 : Int × Int) =>
      (if s123.2 < (List.length p0 : Int) then
        (andThen
          (ck ((0 : Int) ≤ s123.2 ∧ s123.2 < (List.length p0 : Int)) (
            ck (decide (p2 ≤ (ix p0 s123.2).Price) = true → (0 : Int) ≤ s123.2 ∧ s123.2 < (List.length p1 : Int)) (
              ck (decide (p2 ≤ (ix p0 s123.2).Price) = true → (0 : Int) ≤ s123.2 ∧ s123.2 < (List.length p0 : Int)) (
                ck ((((decide (p2 ≤ (ix p0 s123.2).Price)) && (decide ((ix p1 s123.2) < (ix p0 s123.2).Count))) && (!(decide (s123.1 < 0)))) = true → (0 : Int) ≤ s123.2 ∧ s123.2 < (List.length p0 : Int)) (
                  ck ((((decide (p2 ≤ (ix p0 s123.2).Price)) && (decide ((ix p1 s123.2) < (ix p0 s123.2).Count))) && (!(decide (s123.1 < 0)))) = true → (0 : Int) ≤ s123.1 ∧ s123.1 < (List.length p0 : Int)) (
                    (if (((decide (p2 ≤ (ix p0 s123.2).Price)) && (decide ((ix p1 s123.2) < (ix p0 s123.2).Count))) && ((decide (s123.1 < 0)) || (decide ((ix p0 s123.1).Price < (ix p0 s123.2).Price)))) = true then
                      some (.next s123.2)
                    else
                      some (.next s123.1))))))))
        fun (s135 : Int) =>
          ck (I64 (s123.2 + (1 : Int))) (
            some (.next (s135, (s123.2 + (1 : Int))))))
      else
        some (.done (.next s123.1)))) N ((-1 : Int), (0 : Int)))
  fun (s73 : Int) =>
    some (s73))
set_option maxRecDepth 20000 in
theorem m_recyclingref51_next_ok (N : Nat) (w0 : World) (p0 : (List ApiBid)) (p1 : (List Int)) (p2 : Int) (A_p0 : Option Addr) (n_p0 c_p0 : Nat) (A_p1 : Option Addr) (n_p1 c_p1 : Nat) (hr_p0 : RdE w0 3 encApiBid A_p0 p0) (hz_p0 : SW A_p0 n_p0 c_p0 (List.length p0)) (hr_p1 : RdE w0 1 encI A_p1 p1) (hz_p1 : SW A_p1 n_p1 c_p1 (List.length p1)) (r : Int) (hr : m_recyclingref51_next N p0 p1 p2 = some r) :
    Calls Try.prog 26 [.slice A_p0 n_p0 c_p0, .slice A_p1 n_p1 c_p1, .int .i64 p2].toArray w0 fun x w1 => ∃ u, x = .returned ((fun (r : Int) (_u : Unit) => .int .i64 r) r u) ∧ Hs w0 ((fun (_r : Int) (_u : Unit) => []) r u) w1 := by
  refine calls_cm (n := 53) (R := fun r x w1 => ∃ u, x = .returned ((fun (r : Int) (_u : Unit) => .int .i64 r) r u) ∧ Hs w0 ((fun (_r : Int) (_u : Unit) => []) r u) w1) Try.func26 rfl rfl (Nat.le_of_ble_eq_true rfl) ?_ r hr
  unfold m_recyclingref51_next
  refine cm_seq ?_
  refine cm_region ?_
  refine lm_val 6 (by kernel_rfl) (fun w1 c1 => (op_assign (v := .int .i64 _) rfl)) ?_
  refine lm_nil ?_
  refine xm_next ?_
  refine cm_seq ?_
  refine cm_region ?_
  refine lm_val 7 (by kernel_rfl) (fun w1 c1 => (op_assign (v := .int .i64 _) rfl)) ?_
  refine lm_nil ?_
  refine xm_next ?_
  refine cm_join (σ := Int) (ξ := Unit) (fun s73 u74 => [(7, .int .i64 s73)]) (fun s73 u74 => []) ?_ ?_
  · skip
    refine cm_seq ?_
    refine cm_region ?_
    refine lm_val 8 (by kernel_rfl) (fun w1 c1 => (op_assign (v := .int .i64 _) rfl)) ?_
    refine lm_nil ?_
    refine xm_next ?_
    refine cm_block ?_
    refine cm_loop (σ := Int × Int) (ξ := Unit) (fun s123 u124 => [(0, .slice A_p0 n_p0 c_p0), (1, .slice A_p1 n_p1 c_p1), (2, .int .i64 p2), (7, .int .i64 s123.1), (8, .int .i64 s123.2)]) (fun s123 u124 => []) () ?_ ?_ ?_
    · exact (sub_cons (by kernel_rfl) rfl (sub_cons (by kernel_rfl) rfl (sub_cons (by kernel_rfl) rfl (sub_cons (by kernel_rfl) rfl (sub_cons (by kernel_rfl) rfl sub_nil)))))
    · exact hsub [] (by kernel_rfl) rfl
    intro s123 u124
    refine cm_seq ?_
    refine cm_seq ?_
    refine cm_region ?_
    refine lm_val 9 (by kernel_rfl) (fun w1 c1 => (op_move (v := .int .i64 _) rfl)) ?_
    refine lm_val 10 (by kernel_rfl) (fun w1 c1 => (op_move (v := .slice _ _ _) rfl)) ?_
    refine lm_val 11 (by kernel_rfl) (fun w1 c1 => (op_lenN rfl (by kernel_rfl) hz_p0.2.2)) ?_
    refine lm_val 12 (by kernel_rfl) (fun w1 c1 => (op_lss rfl rfl)) ?_
    refine lm_nil ?_
    refine xm_next ?_
    refine cm_cond (by kernel_rfl) rfl (fun h125 => ?_) (fun h125 => ?_)
    · skip
      refine cm_skip ?_
      refine xm_next ?_
      refine cm_join (σ := Int) (ξ := Unit) (fun s135 u136 => [(0, .slice A_p0 n_p0 c_p0), (1, .slice A_p1 n_p1 c_p1), (2, .int .i64 p2), (7, .int .i64 s135), (8, .int .i64 s123.2)]) (fun s135 u136 => []) ?_ ?_
      · skip
        refine cm_block ?_
        refine cm_seq ?_
        refine cm_ck (fun h137 => ?_)
        refine cm_ck (fun h138 => ?_)
        refine cm_ck (fun h139 => ?_)
        refine cm_ck (fun h140 => ?_)
        refine cm_ck (fun h141 => ?_)
        refine cm_drawn [(50, .bool (((decide (p2 ≤ (ix p0 s123.2).Price)) && (decide ((ix p1 s123.2) < (ix p0 s123.2).Count))) && ((decide (s123.1 < 0)) || (decide ((ix p0 s123.1).Price < (ix p0 s123.2).Price)))))] (by kernel_rfl) (by kernel_rfl) ?_ ?_
        · skip
          refine wq_val 15 (by kernel_rfl) (fun w1 c1 => (op_move (v := .slice _ _ _) rfl)) ?_
          refine wq_val 16 (by kernel_rfl) (fun w1 c1 => (op_move (v := .int .i64 _) rfl)) ?_
          refine wq_val 17 (by kernel_rfl) (fun w1 c1 => (op_indexA 3 rfl rfl (by kernel_rfl) ((hr_p0.old c1).addr h137.1 h137.2) hz_p0.2.2 h137.1 h137.2)) ?_
          refine wq_val 18 (by kernel_rfl) (fun w1 c1 => (op_field (m := 1) rfl (by kernel_rfl))) ?_
          refine wq_val 19 (by kernel_rfl) (fun w1 c1 => (op_load (v := .int .i64 ((ix p0 s123.2).Price)) rfl (by kernel_rfl) ((hr_p0.old c1).cell (j := 1) h137.1 h137.2 rfl))) ?_
          refine wq_val 20 (by kernel_rfl) (fun w1 c1 => (op_move (v := .int .i64 _) rfl)) ?_
          refine wq_dec 21 (by kernel_rfl) (fun w1 c1 => (op_geq rfl rfl)) (fun h142 => ?_) (fun h142 => ?_)
          · skip
            refine wq_val 22 (by kernel_rfl) (fun w1 c1 => (op_move (v := .bool true) rfl)) ?_
            refine wq_val 23 (by kernel_rfl) (fun w1 c1 => (op_move (v := .slice _ _ _) rfl)) ?_
            refine wq_val 24 (by kernel_rfl) (fun w1 c1 => (op_move (v := .int .i64 _) rfl)) ?_
            refine wq_val 25 (by kernel_rfl) (fun w1 c1 => (op_indexA 1 rfl rfl (by kernel_rfl) ((hr_p1.old c1).addr (h138 (by rw [decide_eq_true h142] <;> rfl)).1 (h138 (by rw [decide_eq_true h142] <;> rfl)).2) hz_p1.2.2 (h138 (by rw [decide_eq_true h142] <;> rfl)).1 (h138 (by rw [decide_eq_true h142] <;> rfl)).2)) ?_
            refine wq_val 26 (by kernel_rfl) (fun w1 c1 => (op_load (v := .int .i64 (ix p1 s123.2)) rfl (by kernel_rfl) ((hr_p1.old c1).cell0 (h138 (by rw [decide_eq_true h142] <;> rfl)).1 (h138 (by rw [decide_eq_true h142] <;> rfl)).2 rfl))) ?_
            refine wq_val 27 (by kernel_rfl) (fun w1 c1 => (op_move (v := .slice _ _ _) rfl)) ?_
            refine wq_val 28 (by kernel_rfl) (fun w1 c1 => (op_move (v := .int .i64 _) rfl)) ?_
            refine wq_val 29 (by kernel_rfl) (fun w1 c1 => (op_indexA 3 rfl rfl (by kernel_rfl) ((hr_p0.old c1).addr (h139 (by rw [decide_eq_true h142] <;> rfl)).1 (h139 (by rw [decide_eq_true h142] <;> rfl)).2) hz_p0.2.2 (h139 (by rw [decide_eq_true h142] <;> rfl)).1 (h139 (by rw [decide_eq_true h142] <;> rfl)).2)) ?_
            refine wq_val 30 (by kernel_rfl) (fun w1 c1 => (op_field (m := 2) rfl (by kernel_rfl))) ?_
            refine wq_val 31 (by kernel_rfl) (fun w1 c1 => (op_load (v := .int .i64 ((ix p0 s123.2).Count)) rfl (by kernel_rfl) ((hr_p0.old c1).cell (j := 2) (h139 (by rw [decide_eq_true h142] <;> rfl)).1 (h139 (by rw [decide_eq_true h142] <;> rfl)).2 rfl))) ?_
            refine wq_dec 32 (by kernel_rfl) (fun w1 c1 => (op_lss rfl rfl)) (fun h143 => ?_) (fun h143 => ?_)
            · skip
              refine wq_val 33 (by kernel_rfl) (fun w1 c1 => (op_pick_t (v := .bool true) rfl rfl)) ?_
              refine wq_val 34 (by kernel_rfl) (fun w1 c1 => (op_move (v := .bool true) rfl)) ?_
              refine wq_val 35 (by kernel_rfl) (fun w1 c1 => (op_move (v := .int .i64 _) rfl)) ?_
              refine wq_dec 36 (by kernel_rfl) (fun w1 c1 => (op_lss rfl rfl)) (fun h144 => ?_) (fun h144 => ?_)
              · skip
                refine wq_val 37 (by kernel_rfl) (fun w1 c1 => (op_move (v := .bool true) rfl)) ?_
                refine wq_skip 38 (by kernel_rfl) ?_
                refine wq_skip 39 (by kernel_rfl) ?_
                refine wq_skip 40 (by kernel_rfl) ?_
                refine wq_skip 41 (by kernel_rfl) ?_
                refine wq_skip 42 (by kernel_rfl) ?_
                refine wq_skip 43 (by kernel_rfl) ?_
                refine wq_skip 44 (by kernel_rfl) ?_
                refine wq_skip 45 (by kernel_rfl) ?_
                refine wq_skip 46 (by kernel_rfl) ?_
                refine wq_skip 47 (by kernel_rfl) ?_
                refine wq_skip 48 (by kernel_rfl) ?_
                refine wq_val 49 (by kernel_rfl) (fun w1 c1 => (op_pick_t (v := .bool true) rfl rfl)) ?_
                refine wq_val 50 (by kernel_rfl) (fun w1 c1 => (op_pick_t (v := .bool true) rfl rfl)) ?_
                exact leaf_q (sub_out 36 _ rfl (by kernel_rfl) ⟨(congrArg Value.bool (by rw [decide_eq_true h142, decide_eq_true h143, decide_eq_true h144] <;> rfl)), trivial⟩)
              · skip
                refine wq_val 37 (by kernel_rfl) (fun w1 c1 => (op_move (v := .bool false) rfl)) ?_
                refine wq_val 38 (by kernel_rfl) (fun w1 c1 => (op_move (v := .slice _ _ _) rfl)) ?_
                refine wq_val 39 (by kernel_rfl) (fun w1 c1 => (op_move (v := .int .i64 _) rfl)) ?_
                refine wq_val 40 (by kernel_rfl) (fun w1 c1 => (op_indexA 3 rfl rfl (by kernel_rfl) ((hr_p0.old c1).addr (h140 (by rw [decide_eq_true h142, decide_eq_true h143, decide_eq_false h144] <;> rfl)).1 (h140 (by rw [decide_eq_true h142, decide_eq_true h143, decide_eq_false h144] <;> rfl)).2) hz_p0.2.2 (h140 (by rw [decide_eq_true h142, decide_eq_true h143, decide_eq_false h144] <;> rfl)).1 (h140 (by rw [decide_eq_true h142, decide_eq_true h143, decide_eq_false h144] <;> rfl)).2)) ?_
                refine wq_val 41 (by kernel_rfl) (fun w1 c1 => (op_field (m := 1) rfl (by kernel_rfl))) ?_
                refine wq_val 42 (by kernel_rfl) (fun w1 c1 => (op_load (v := .int .i64 ((ix p0 s123.2).Price)) rfl (by kernel_rfl) ((hr_p0.old c1).cell (j := 1) (h140 (by rw [decide_eq_true h142, decide_eq_true h143, decide_eq_false h144] <;> rfl)).1 (h140 (by rw [decide_eq_true h142, decide_eq_true h143, decide_eq_false h144] <;> rfl)).2 rfl))) ?_
                refine wq_val 43 (by kernel_rfl) (fun w1 c1 => (op_move (v := .slice _ _ _) rfl)) ?_
                refine wq_val 44 (by kernel_rfl) (fun w1 c1 => (op_move (v := .int .i64 _) rfl)) ?_
                refine wq_val 45 (by kernel_rfl) (fun w1 c1 => (op_indexA 3 rfl rfl (by kernel_rfl) ((hr_p0.old c1).addr (h141 (by rw [decide_eq_true h142, decide_eq_true h143, decide_eq_false h144] <;> rfl)).1 (h141 (by rw [decide_eq_true h142, decide_eq_true h143, decide_eq_false h144] <;> rfl)).2) hz_p0.2.2 (h141 (by rw [decide_eq_true h142, decide_eq_true h143, decide_eq_false h144] <;> rfl)).1 (h141 (by rw [decide_eq_true h142, decide_eq_true h143, decide_eq_false h144] <;> rfl)).2)) ?_
                refine wq_val 46 (by kernel_rfl) (fun w1 c1 => (op_field (m := 1) rfl (by kernel_rfl))) ?_
                refine wq_val 47 (by kernel_rfl) (fun w1 c1 => (op_load (v := .int .i64 ((ix p0 s123.1).Price)) rfl (by kernel_rfl) ((hr_p0.old c1).cell (j := 1) (h141 (by rw [decide_eq_true h142, decide_eq_true h143, decide_eq_false h144] <;> rfl)).1 (h141 (by rw [decide_eq_true h142, decide_eq_true h143, decide_eq_false h144] <;> rfl)).2 rfl))) ?_
                refine wq_val 48 (by kernel_rfl) (fun w1 c1 => (op_gtr rfl rfl)) ?_
                refine wq_val 49 (by kernel_rfl) (fun w1 c1 => (op_pick_f (v := .bool _) rfl rfl)) ?_
                refine wq_val 50 (by kernel_rfl) (fun w1 c1 => (op_pick_t (v := .bool _) rfl rfl)) ?_
                exact leaf_q (sub_out 36 _ rfl (by kernel_rfl) ⟨(congrArg Value.bool (by rw [decide_eq_true h142, decide_eq_true h143, decide_eq_false h144] <;> rfl)), trivial⟩)
            · skip
              refine wq_val 33 (by kernel_rfl) (fun w1 c1 => (op_pick_t (v := .bool false) rfl rfl)) ?_
              refine wq_val 34 (by kernel_rfl) (fun w1 c1 => (op_move (v := .bool false) rfl)) ?_
              refine wq_skip 35 (by kernel_rfl) ?_
              refine wq_skip 36 (by kernel_rfl) ?_
              refine wq_skip 37 (by kernel_rfl) ?_
              refine wq_skip 38 (by kernel_rfl) ?_
              refine wq_skip 39 (by kernel_rfl) ?_
              refine wq_skip 40 (by kernel_rfl) ?_
              refine wq_skip 41 (by kernel_rfl) ?_
              refine wq_skip 42 (by kernel_rfl) ?_
              refine wq_skip 43 (by kernel_rfl) ?_
              refine wq_skip 44 (by kernel_rfl) ?_
              refine wq_skip 45 (by kernel_rfl) ?_
              refine wq_skip 46 (by kernel_rfl) ?_
              refine wq_skip 47 (by kernel_rfl) ?_
              refine wq_skip 48 (by kernel_rfl) ?_
              refine wq_skip 49 (by kernel_rfl) ?_
              refine wq_val 50 (by kernel_rfl) (fun w1 c1 => (op_pick_f (v := .bool false) rfl rfl)) ?_
              exact leaf_q (sub_out 36 _ rfl (by kernel_rfl) ⟨(congrArg Value.bool (by rw [decide_eq_true h142, decide_eq_false h143] <;> rfl)), trivial⟩)
          · skip
            refine wq_val 22 (by kernel_rfl) (fun w1 c1 => (op_move (v := .bool false) rfl)) ?_
            refine wq_skip 23 (by kernel_rfl) ?_
            refine wq_skip 24 (by kernel_rfl) ?_
            refine wq_skip 25 (by kernel_rfl) ?_
            refine wq_skip 26 (by kernel_rfl) ?_
            refine wq_skip 27 (by kernel_rfl) ?_
            refine wq_skip 28 (by kernel_rfl) ?_
            refine wq_skip 29 (by kernel_rfl) ?_
            refine wq_skip 30 (by kernel_rfl) ?_
            refine wq_skip 31 (by kernel_rfl) ?_
            refine wq_skip 32 (by kernel_rfl) ?_
            refine wq_val 33 (by kernel_rfl) (fun w1 c1 => (op_pick_f (v := .bool false) rfl rfl)) ?_
            refine wq_val 34 (by kernel_rfl) (fun w1 c1 => (op_move (v := .bool false) rfl)) ?_
            refine wq_skip 35 (by kernel_rfl) ?_
            refine wq_skip 36 (by kernel_rfl) ?_
            refine wq_skip 37 (by kernel_rfl) ?_
            refine wq_skip 38 (by kernel_rfl) ?_
            refine wq_skip 39 (by kernel_rfl) ?_
            refine wq_skip 40 (by kernel_rfl) ?_
            refine wq_skip 41 (by kernel_rfl) ?_
            refine wq_skip 42 (by kernel_rfl) ?_
            refine wq_skip 43 (by kernel_rfl) ?_
            refine wq_skip 44 (by kernel_rfl) ?_
            refine wq_skip 45 (by kernel_rfl) ?_
            refine wq_skip 46 (by kernel_rfl) ?_
            refine wq_skip 47 (by kernel_rfl) ?_
            refine wq_skip 48 (by kernel_rfl) ?_
            refine wq_skip 49 (by kernel_rfl) ?_
            refine wq_val 50 (by kernel_rfl) (fun w1 c1 => (op_pick_f (v := .bool false) rfl rfl)) ?_
            exact leaf_q (sub_out 36 _ rfl (by kernel_rfl) ⟨(congrArg Value.bool (by rw [decide_eq_false h142] <;> rfl)), trivial⟩)
        refine xm_next ?_
        refine cm_condB (by kernel_rfl) rfl (fun h145 => ?_) (fun h145 => ?_)
        · skip
          refine cm_region ?_
          refine lm_val 51 (by kernel_rfl) (fun w1 c1 => (op_move (v := .int .i64 _) rfl)) ?_
          refine lm_val 7 (by kernel_rfl) (fun w1 c1 => (op_assign (v := .int .i64 _) rfl)) ?_
          refine lm_nil ?_
          refine xm_inN ?_
          exact xm_lnext () (sub_cons (by kernel_rfl) rfl (sub_cons (by kernel_rfl) rfl (sub_cons (by kernel_rfl) rfl (sub_cons (by kernel_rfl) rfl (sub_cons (by kernel_rfl) rfl sub_nil))))) (hsub [] (by kernel_rfl) rfl)
        · skip
          refine cm_skip ?_
          refine xm_inN ?_
          exact xm_lnext () (sub_cons (by kernel_rfl) rfl (sub_cons (by kernel_rfl) rfl (sub_cons (by kernel_rfl) rfl (sub_cons (by kernel_rfl) rfl (sub_cons (by kernel_rfl) rfl sub_nil))))) (hsub [] (by kernel_rfl) rfl)
      intro s135 u136
      refine cm_region ?_
      refine lm_val 13 (by kernel_rfl) (fun w1 c1 => (op_move (v := .int .i64 _) rfl)) ?_
      refine lm_ck (fun h146 => ?_)
      refine lm_val 14 (by kernel_rfl) (fun w1 c1 => (op_add rfl rfl h146)) ?_
      refine lm_val 8 (by kernel_rfl) (fun w1 c1 => (op_assign (v := .int .i64 _) rfl)) ?_
      refine lm_nil ?_
      exact xm_lnext () (sub_cons (by kernel_rfl) rfl (sub_cons (by kernel_rfl) rfl (sub_cons (by kernel_rfl) rfl (sub_cons (by kernel_rfl) rfl (sub_cons (by kernel_rfl) rfl sub_nil))))) (hsub [] (by kernel_rfl) rfl)
    · skip
      refine cm_exit ?_
      refine xm_thenE ?_
      refine xm_lexit ?_
      refine xm_here ?_
      exact xm_lnext () (sub_cons (by kernel_rfl) rfl sub_nil) (hsub [] (by kernel_rfl) rfl)
  intro s73 u74
  refine cm_seq ?_
  refine cm_region ?_
  refine lm_val 52 (by kernel_rfl) (fun w1 c1 => (op_move (v := .int .i64 _) rfl)) ?_
  refine lm_val 6 (by kernel_rfl) (fun w1 c1 => (op_assign (v := .int .i64 _) rfl)) ?_
  refine lm_nil ?_
  refine xm_next ?_
  refine cm_ret ?_
  exact xm_retT rfl (by kernel_rfl) (show _ = Value.int .i64 _ from rfl) fun w1 c1 => ⟨(), rfl, hsub [] (by kernel_rfl) rfl w1 c1⟩
/-- recyclingref51.fault -/
def m_recyclingref51_fault (N : Nat) (p0 : ApiOutcome) : Option (Int) :=
  (if 64 < (List.length p0.Won : Int) then
    some ((8 : Int))
  else
    (andThen
      (loopM (fun (s45 : Int) =>
        (if s45 < (List.length p0.Won : Int) then
          ck ((0 : Int) ≤ s45 ∧ s45 < (List.length p0.Won : Int)) (
            ck ((!(decide ((ix p0.Won s45) < 0))) = true → (0 : Int) ≤ s45 ∧ s45 < (List.length p0.Won : Int)) (
              (if ((decide ((ix p0.Won s45) < 0)) || (decide (100 < (ix p0.Won s45)))) = true then
                some (.done (.done ((1 : Int))))
              else
                ck (I64 (s45 + (1 : Int))) (
                  some (.next (s45 + (1 : Int)))))))
        else
          some (.done (.next ())))) N (0 : Int))
    fun (_s27 : Unit) =>
      (if ((decide (p0.Price < 0)) || (decide (1000000 < p0.Price))) = true then
        some ((1 : Int))
      else
        some ((0 : Int)))))
set_option maxRecDepth 20000 in
theorem m_recyclingref51_fault_ok (N : Nat) (w0 : World) (p0 : ApiOutcome) (A_p01 : Option Addr) (n_p01 c_p01 : Nat) (hr_p01 : RdE w0 1 encI A_p01 p0.Won) (hz_p01 : SW A_p01 n_p01 c_p01 (List.length p0.Won)) (r : Int) (hr : m_recyclingref51_fault N p0 = some r) :
    Calls Try.prog 28 [.agg #[.slice A_p01 n_p01 c_p01, .int .i64 p0.Price]].toArray w0 fun x w1 => ∃ u, x = .returned ((fun (r : Int) (_u : Unit) => .int .i64 r) r u) ∧ Hs w0 ((fun (_r : Int) (_u : Unit) => []) r u) w1 := by
  refine calls_cm (n := 37) (R := fun r x w1 => ∃ u, x = .returned ((fun (r : Int) (_u : Unit) => .int .i64 r) r u) ∧ Hs w0 ((fun (_r : Int) (_u : Unit) => []) r u) w1) Try.func28 rfl rfl (Nat.le_of_ble_eq_true rfl) ?_ r hr
  unfold m_recyclingref51_fault
  refine cm_seq ?_
  refine cm_region ?_
  refine lm_box 1 [.slice _ _ _, .int .i64 _] (by kernel_rfl) rfl ?_
  intro b1
  refine lm_val 2 (by kernel_rfl) (fun w1 c1 => (op_assign (v := .int .i64 _) rfl)) ?_
  refine lm_nil ?_
  refine xm_next ?_
  refine cm_seq ?_
  refine cm_seq ?_
  refine cm_region ?_
  refine lm_val 4 (by kernel_rfl) (fun w1 c1 => (op_fieldL (m := 0) (k := 0) rfl (by kernel_rfl) rfl)) ?_
  refine lm_val 5 (by kernel_rfl) (fun w1 c1 => (op_load rfl (by kernel_rfl) (c1.cell 0 (u := .slice _ _ _) rfl rfl))) ?_
  refine lm_val 6 (by kernel_rfl) (fun w1 c1 => (op_lenN rfl (by kernel_rfl) hz_p01.2.2)) ?_
  refine lm_val 7 (by kernel_rfl) (fun w1 c1 => (op_gtr rfl rfl)) ?_
  refine lm_nil ?_
  refine xm_next ?_
  refine cm_cond (by kernel_rfl) rfl (fun h2 => ?_) (fun h2 => ?_)
  · skip
    refine cm_seq ?_
    refine cm_region ?_
    refine lm_val 2 (by kernel_rfl) (fun w1 c1 => (op_assign (v := .int .i64 _) rfl)) ?_
    refine lm_nil ?_
    refine xm_next ?_
    refine cm_ret ?_
    refine xm_thenR ?_
    exact xm_retT rfl (by kernel_rfl) (show _ = Value.int .i64 _ from rfl) fun w1 c1 => ⟨(), rfl, hsub [] (by kernel_rfl) rfl w1 c1⟩
  · skip
    refine cm_skip ?_
    refine xm_next ?_
    refine cm_join (σ := Unit) (ξ := Unit) (fun s27 u28 => [(1, .pointer (some ⟨b1, 0, none⟩))]) (fun s27 u28 => [blkE b1 29 [.slice A_p01 n_p01 c_p01, .int .i64 p0.Price]]) ?_ ?_
    · skip
      refine cm_seq ?_
      refine cm_region ?_
      refine lm_val 3 (by kernel_rfl) (fun w1 c1 => (op_assign (v := .int .i64 _) rfl)) ?_
      refine lm_nil ?_
      refine xm_next ?_
      refine cm_block ?_
      refine cm_loop (σ := Int) (ξ := Unit) (fun s45 u46 => [(1, .pointer (some ⟨b1, 0, none⟩)), (3, .int .i64 s45)]) (fun s45 u46 => [blkE b1 29 [.slice A_p01 n_p01 c_p01, .int .i64 p0.Price]]) () ?_ ?_ ?_
      · exact (sub_cons (by kernel_rfl) rfl (sub_cons (by kernel_rfl) rfl sub_nil))
      · exact hsub [0] (by kernel_rfl) rfl
      intro s45 u46
      refine cm_seq ?_
      refine cm_seq ?_
      refine cm_region ?_
      refine lm_val 8 (by kernel_rfl) (fun w1 c1 => (op_move (v := .int .i64 _) rfl)) ?_
      refine lm_val 9 (by kernel_rfl) (fun w1 c1 => (op_fieldL (m := 0) (k := 0) rfl (by kernel_rfl) rfl)) ?_
      refine lm_val 10 (by kernel_rfl) (fun w1 c1 => (op_load rfl (by kernel_rfl) (c1.cell 0 (u := .slice _ _ _) rfl rfl))) ?_
      refine lm_val 11 (by kernel_rfl) (fun w1 c1 => (op_lenN rfl (by kernel_rfl) hz_p01.2.2)) ?_
      refine lm_val 12 (by kernel_rfl) (fun w1 c1 => (op_lss rfl rfl)) ?_
      refine lm_nil ?_
      refine xm_next ?_
      refine cm_cond (by kernel_rfl) rfl (fun h47 => ?_) (fun h47 => ?_)
      · skip
        refine cm_skip ?_
        refine xm_next ?_
        refine cm_seq ?_
        refine cm_block ?_
        refine cm_seq ?_
        refine cm_ck (fun h48 => ?_)
        refine cm_ck (fun h49 => ?_)
        refine cm_cutE [(28, .bool ((decide ((ix p0.Won s45) < 0)) || (decide (100 < (ix p0.Won s45)))))] ?_ ?_
        · skip
          refine wq_val 15 (by kernel_rfl) (fun w1 c1 => (op_fieldL (m := 0) (k := 0) rfl (by kernel_rfl) rfl)) ?_
          refine wq_val 16 (by kernel_rfl) (fun w1 c1 => (op_load rfl (by kernel_rfl) (c1.cell 0 (u := .slice _ _ _) rfl rfl))) ?_
          refine wq_val 17 (by kernel_rfl) (fun w1 c1 => (op_move (v := .int .i64 _) rfl)) ?_
          refine wq_val 18 (by kernel_rfl) (fun w1 c1 => (op_indexA 1 rfl rfl (by kernel_rfl) ((hr_p01.old c1).addr h48.1 h48.2) hz_p01.2.2 h48.1 h48.2)) ?_
          refine wq_val 19 (by kernel_rfl) (fun w1 c1 => (op_load (v := .int .i64 (ix p0.Won s45)) rfl (by kernel_rfl) ((hr_p01.old c1).cell0 h48.1 h48.2 rfl))) ?_
          refine wq_dec 20 (by kernel_rfl) (fun w1 c1 => (op_lss rfl rfl)) (fun h50 => ?_) (fun h50 => ?_)
          · skip
            refine wq_val 21 (by kernel_rfl) (fun w1 c1 => (op_move (v := .bool true) rfl)) ?_
            refine wq_skip 22 (by kernel_rfl) ?_
            refine wq_skip 23 (by kernel_rfl) ?_
            refine wq_skip 24 (by kernel_rfl) ?_
            refine wq_skip 25 (by kernel_rfl) ?_
            refine wq_skip 26 (by kernel_rfl) ?_
            refine wq_skip 27 (by kernel_rfl) ?_
            refine wq_val 28 (by kernel_rfl) (fun w1 c1 => (op_pick_t (v := .bool true) rfl rfl)) ?_
            exact leaf_q (sub_out 14 _ rfl (by kernel_rfl) ⟨(congrArg Value.bool (by rw [decide_eq_true h50] <;> rfl)), trivial⟩)
          · skip
            refine wq_val 21 (by kernel_rfl) (fun w1 c1 => (op_move (v := .bool false) rfl)) ?_
            refine wq_val 22 (by kernel_rfl) (fun w1 c1 => (op_fieldL (m := 0) (k := 0) rfl (by kernel_rfl) rfl)) ?_
            refine wq_val 23 (by kernel_rfl) (fun w1 c1 => (op_load rfl (by kernel_rfl) (c1.cell 0 (u := .slice _ _ _) rfl rfl))) ?_
            refine wq_val 24 (by kernel_rfl) (fun w1 c1 => (op_move (v := .int .i64 _) rfl)) ?_
            refine wq_val 25 (by kernel_rfl) (fun w1 c1 => (op_indexA 1 rfl rfl (by kernel_rfl) ((hr_p01.old c1).addr (h49 (by rw [decide_eq_false h50] <;> rfl)).1 (h49 (by rw [decide_eq_false h50] <;> rfl)).2) hz_p01.2.2 (h49 (by rw [decide_eq_false h50] <;> rfl)).1 (h49 (by rw [decide_eq_false h50] <;> rfl)).2)) ?_
            refine wq_val 26 (by kernel_rfl) (fun w1 c1 => (op_load (v := .int .i64 (ix p0.Won s45)) rfl (by kernel_rfl) ((hr_p01.old c1).cell0 (h49 (by rw [decide_eq_false h50] <;> rfl)).1 (h49 (by rw [decide_eq_false h50] <;> rfl)).2 rfl))) ?_
            refine wq_val 27 (by kernel_rfl) (fun w1 c1 => (op_gtr rfl rfl)) ?_
            refine wq_val 28 (by kernel_rfl) (fun w1 c1 => (op_pick_f (v := .bool _) rfl rfl)) ?_
            exact leaf_q (sub_out 14 _ rfl (by kernel_rfl) ⟨(congrArg Value.bool (by rw [decide_eq_false h50] <;> rfl)), trivial⟩)
        refine xm_next ?_
        refine cm_condB (by kernel_rfl) rfl (fun h51 => ?_) (fun h51 => ?_)
        · skip
          refine cm_seq ?_
          refine cm_region ?_
          refine lm_val 2 (by kernel_rfl) (fun w1 c1 => (op_assign (v := .int .i64 _) rfl)) ?_
          refine lm_nil ?_
          refine xm_next ?_
          refine cm_ret ?_
          refine xm_inR ?_
          refine xm_thenR ?_
          refine xm_lret ?_
          refine xm_inR ?_
          refine xm_lret ?_
          exact xm_retT rfl (by kernel_rfl) (show _ = Value.int .i64 _ from rfl) fun w1 c1 => ⟨(), rfl, hsub [] (by kernel_rfl) rfl w1 c1⟩
        · skip
          refine cm_skip ?_
          refine xm_inN ?_
          refine xm_next ?_
          refine cm_region ?_
          refine lm_val 13 (by kernel_rfl) (fun w1 c1 => (op_move (v := .int .i64 _) rfl)) ?_
          refine lm_ck (fun h52 => ?_)
          refine lm_val 14 (by kernel_rfl) (fun w1 c1 => (op_add rfl rfl h52)) ?_
          refine lm_val 3 (by kernel_rfl) (fun w1 c1 => (op_assign (v := .int .i64 _) rfl)) ?_
          refine lm_nil ?_
          exact xm_lnext () (sub_cons (by kernel_rfl) rfl (sub_cons (by kernel_rfl) rfl sub_nil)) (hsub [0] (by kernel_rfl) rfl)
      · skip
        refine cm_exit ?_
        refine xm_thenE ?_
        refine xm_lexit ?_
        refine xm_here ?_
        exact xm_lnext () (sub_cons (by kernel_rfl) rfl sub_nil) (hsub [0] (by kernel_rfl) rfl)
    intro s27 u28
    refine cm_seq ?_
    refine cm_seq ?_
    refine cm_cutE [(36, .bool ((decide (p0.Price < 0)) || (decide (1000000 < p0.Price))))] ?_ ?_
    · skip
      refine wq_val 29 (by kernel_rfl) (fun w1 c1 => (op_fieldL (m := 1) (k := 1) rfl (by kernel_rfl) rfl)) ?_
      refine wq_val 30 (by kernel_rfl) (fun w1 c1 => (op_load rfl (by kernel_rfl) (c1.cell 0 (u := .int .i64 _) rfl rfl))) ?_
      refine wq_dec 31 (by kernel_rfl) (fun w1 c1 => (op_lss rfl rfl)) (fun h53 => ?_) (fun h53 => ?_)
      · skip
        refine wq_val 32 (by kernel_rfl) (fun w1 c1 => (op_move (v := .bool true) rfl)) ?_
        refine wq_skip 33 (by kernel_rfl) ?_
        refine wq_skip 34 (by kernel_rfl) ?_
        refine wq_skip 35 (by kernel_rfl) ?_
        refine wq_val 36 (by kernel_rfl) (fun w1 c1 => (op_pick_t (v := .bool true) rfl rfl)) ?_
        exact leaf_q (sub_out 8 _ rfl (by kernel_rfl) ⟨(congrArg Value.bool (by rw [decide_eq_true h53] <;> rfl)), trivial⟩)
      · skip
        refine wq_val 32 (by kernel_rfl) (fun w1 c1 => (op_move (v := .bool false) rfl)) ?_
        refine wq_val 33 (by kernel_rfl) (fun w1 c1 => (op_fieldL (m := 1) (k := 1) rfl (by kernel_rfl) rfl)) ?_
        refine wq_val 34 (by kernel_rfl) (fun w1 c1 => (op_load rfl (by kernel_rfl) (c1.cell 0 (u := .int .i64 _) rfl rfl))) ?_
        refine wq_val 35 (by kernel_rfl) (fun w1 c1 => (op_gtr rfl rfl)) ?_
        refine wq_val 36 (by kernel_rfl) (fun w1 c1 => (op_pick_f (v := .bool _) rfl rfl)) ?_
        exact leaf_q (sub_out 8 _ rfl (by kernel_rfl) ⟨(congrArg Value.bool (by rw [decide_eq_false h53] <;> rfl)), trivial⟩)
    refine xm_next ?_
    refine cm_condB (by kernel_rfl) rfl (fun h54 => ?_) (fun h54 => ?_)
    · skip
      refine cm_seq ?_
      refine cm_region ?_
      refine lm_val 2 (by kernel_rfl) (fun w1 c1 => (op_assign (v := .int .i64 _) rfl)) ?_
      refine lm_nil ?_
      refine xm_next ?_
      refine cm_ret ?_
      refine xm_thenR ?_
      exact xm_retT rfl (by kernel_rfl) (show _ = Value.int .i64 _ from rfl) fun w1 c1 => ⟨(), rfl, hsub [] (by kernel_rfl) rfl w1 c1⟩
    · skip
      refine cm_skip ?_
      refine xm_next ?_
      refine cm_seq ?_
      refine cm_region ?_
      refine lm_val 2 (by kernel_rfl) (fun w1 c1 => (op_assign (v := .int .i64 _) rfl)) ?_
      refine lm_nil ?_
      refine xm_next ?_
      refine cm_ret ?_
      exact xm_retT rfl (by kernel_rfl) (show _ = Value.int .i64 _ from rfl) fun w1 c1 => ⟨(), rfl, hsub [] (by kernel_rfl) rfl w1 c1⟩
/-- recyclingref51.Revenue -/
def m_recyclingref51_Revenue (N : Nat) (p0 : ApiOutcome) : Option (Int × Int) :=
  Option.bind (m_recyclingref51_fault N p0) fun r2 => (if r2 ≠ 0 then
    some (((0 : Int), r2))
  else
    (andThen
      (loopM (fun (s37 : Int × Int) =>
        (if s37.2 < (List.length p0.Won : Int) then
          ck ((0 : Int) ≤ s37.2 ∧ s37.2 < (List.length p0.Won : Int)) (
            ck (I64 (s37.1 + (ix p0.Won s37.2))) (
              ck (I64 (s37.2 + (1 : Int))) (
                some (.next ((s37.1 + (ix p0.Won s37.2)), (s37.2 + (1 : Int)))))))
        else
          some (.done (.next s37.1)))) N ((0 : Int), (0 : Int)))
    fun (s23 : Int) =>
      ck (I64 (s23 * p0.Price)) (
        some (((s23 * p0.Price), (0 : Int))))))
set_option maxRecDepth 20000 in
theorem m_recyclingref51_Revenue_ok (N : Nat) (w0 : World) (p0 : ApiOutcome) (A_p01 : Option Addr) (n_p01 c_p01 : Nat) (hr_p01 : RdE w0 1 encI A_p01 p0.Won) (hz_p01 : SW A_p01 n_p01 c_p01 (List.length p0.Won)) (r : Int × Int) (hr : m_recyclingref51_Revenue N p0 = some r) :
    Calls Try.prog 18 [.agg #[.slice A_p01 n_p01 c_p01, .int .i64 p0.Price]].toArray w0 fun x w1 => ∃ u, x = .returned ((fun (r : Int × Int) (_u : Unit) => .tuple #[.int .i64 r.1, .int .i64 r.2]) r u) ∧ Hs w0 ((fun (_r : Int × Int) (_u : Unit) => []) r u) w1 := by
  refine calls_cm (n := 30) (R := fun r x w1 => ∃ u, x = .returned ((fun (r : Int × Int) (_u : Unit) => .tuple #[.int .i64 r.1, .int .i64 r.2]) r u) ∧ Hs w0 ((fun (_r : Int × Int) (_u : Unit) => []) r u) w1) Try.func18 rfl rfl (Nat.le_of_ble_eq_true rfl) ?_ r hr
  unfold m_recyclingref51_Revenue
  refine cm_seq ?_
  refine cm_region ?_
  refine lm_box 1 [.slice _ _ _, .int .i64 _] (by kernel_rfl) rfl ?_
  intro b1
  refine lm_val 2 (by kernel_rfl) (fun w1 c1 => (op_assign (v := .int .i64 _) rfl)) ?_
  refine lm_val 3 (by kernel_rfl) (fun w1 c1 => (op_assign (v := .int .i64 _) rfl)) ?_
  refine lm_nil ?_
  refine xm_next ?_
  refine cm_seq ?_
  refine cm_seq ?_
  refine cm_region ?_
  refine lm_val 7 (by kernel_rfl) (fun w1 c1 => (op_loadR [.slice _ _ _, .int .i64 _] rfl (by kernel_rfl) (c1.cells 0 rfl rfl))) ?_
  refine lm_call 8 (V := (fun (r : Int) (_u : Unit) => .int .i64 r)) (HR := (fun (_r : Int) (_u : Unit) => [])) (by kernel_rfl) (fun w1 => op_call (by kernel_rfl)) (fun r1 hr1 w1 c1 => m_recyclingref51_fault_ok N w1 p0 A_p01 n_p01 c_p01 (hr_p01.old c1) hz_p01 r1 hr1) ?_
  intro r2 u3
  refine lm_val 4 (by kernel_rfl) (fun w1 c1 => (op_assign (v := .int .i64 _) rfl)) ?_
  refine lm_nil ?_
  refine xm_next ?_
  refine cm_seq ?_
  refine cm_region ?_
  refine lm_val 9 (by kernel_rfl) (fun w1 c1 => (op_move (v := .int .i64 _) rfl)) ?_
  refine lm_val 10 (by kernel_rfl) (fun w1 c1 => (op_neq rfl rfl)) ?_
  refine lm_nil ?_
  refine xm_next ?_
  refine cm_cond (by kernel_rfl) rfl (fun h4 => ?_) (fun h4 => ?_)
  · skip
    refine cm_seq ?_
    refine cm_region ?_
    refine lm_val 11 (by kernel_rfl) (fun w1 c1 => (op_move (v := .int .i64 _) rfl)) ?_
    refine lm_val 2 (by kernel_rfl) (fun w1 c1 => (op_assign (v := .int .i64 _) rfl)) ?_
    refine lm_val 3 (by kernel_rfl) (fun w1 c1 => (op_assign (v := .int .i64 _) rfl)) ?_
    refine lm_nil ?_
    refine xm_next ?_
    refine cm_ret ?_
    refine xm_thenR ?_
    exact xm_retTT rfl (by kernel_rfl) (show _ = Value.int .i64 _ from rfl) (by kernel_rfl) (show _ = Value.int .i64 _ from rfl) fun w1 c1 => ⟨(), rfl, hsub [] (by kernel_rfl) rfl w1 c1⟩
  · skip
    refine cm_skip ?_
    refine xm_next ?_
    refine cm_seq ?_
    refine cm_region ?_
    refine lm_val 5 (by kernel_rfl) (fun w1 c1 => (op_assign (v := .int .i64 _) rfl)) ?_
    refine lm_nil ?_
    refine xm_next ?_
    refine cm_join (σ := Int) (ξ := Unit) (fun s23 u24 => [(1, .pointer (some ⟨b1, 0, none⟩)), (5, .int .i64 s23)]) (fun s23 u24 => [blkE b1 29 [.slice A_p01 n_p01 c_p01, .int .i64 p0.Price]]) ?_ ?_
    · skip
      refine cm_seq ?_
      refine cm_region ?_
      refine lm_val 6 (by kernel_rfl) (fun w1 c1 => (op_assign (v := .int .i64 _) rfl)) ?_
      refine lm_nil ?_
      refine xm_next ?_
      refine cm_block ?_
      refine cm_loop (σ := Int × Int) (ξ := Unit) (fun s37 u38 => [(1, .pointer (some ⟨b1, 0, none⟩)), (5, .int .i64 s37.1), (6, .int .i64 s37.2)]) (fun s37 u38 => [blkE b1 29 [.slice A_p01 n_p01 c_p01, .int .i64 p0.Price]]) () ?_ ?_ ?_
      · exact (sub_cons (by kernel_rfl) rfl (sub_cons (by kernel_rfl) rfl (sub_cons (by kernel_rfl) rfl sub_nil)))
      · exact hsub [0] (by kernel_rfl) rfl
      intro s37 u38
      refine cm_seq ?_
      refine cm_seq ?_
      refine cm_region ?_
      refine lm_val 12 (by kernel_rfl) (fun w1 c1 => (op_move (v := .int .i64 _) rfl)) ?_
      refine lm_val 13 (by kernel_rfl) (fun w1 c1 => (op_fieldL (m := 0) (k := 0) rfl (by kernel_rfl) rfl)) ?_
      refine lm_val 14 (by kernel_rfl) (fun w1 c1 => (op_load rfl (by kernel_rfl) (c1.cell 0 (u := .slice _ _ _) rfl rfl))) ?_
      refine lm_val 15 (by kernel_rfl) (fun w1 c1 => (op_lenN rfl (by kernel_rfl) hz_p01.2.2)) ?_
      refine lm_val 16 (by kernel_rfl) (fun w1 c1 => (op_lss rfl rfl)) ?_
      refine lm_nil ?_
      refine xm_next ?_
      refine cm_cond (by kernel_rfl) rfl (fun h39 => ?_) (fun h39 => ?_)
      · skip
        refine cm_skip ?_
        refine xm_next ?_
        refine cm_seq ?_
        refine cm_block ?_
        refine cm_region ?_
        refine lm_val 19 (by kernel_rfl) (fun w1 c1 => (op_move (v := .int .i64 _) rfl)) ?_
        refine lm_val 20 (by kernel_rfl) (fun w1 c1 => (op_fieldL (m := 0) (k := 0) rfl (by kernel_rfl) rfl)) ?_
        refine lm_val 21 (by kernel_rfl) (fun w1 c1 => (op_load rfl (by kernel_rfl) (c1.cell 0 (u := .slice _ _ _) rfl rfl))) ?_
        refine lm_val 22 (by kernel_rfl) (fun w1 c1 => (op_move (v := .int .i64 _) rfl)) ?_
        refine lm_ck (fun h40 => ?_)
        refine lm_val 23 (by kernel_rfl) (fun w1 c1 => (op_indexA 1 rfl rfl (by kernel_rfl) ((hr_p01.old c1).addr h40.1 h40.2) hz_p01.2.2 h40.1 h40.2)) ?_
        refine lm_val 24 (by kernel_rfl) (fun w1 c1 => (op_load (v := .int .i64 (ix p0.Won s37.2)) rfl (by kernel_rfl) ((hr_p01.old c1).cell0 h40.1 h40.2 rfl))) ?_
        refine lm_ck (fun h41 => ?_)
        refine lm_val 25 (by kernel_rfl) (fun w1 c1 => (op_add rfl rfl h41)) ?_
        refine lm_val 5 (by kernel_rfl) (fun w1 c1 => (op_assign (v := .int .i64 _) rfl)) ?_
        refine lm_nil ?_
        refine xm_inN ?_
        refine xm_next ?_
        refine cm_region ?_
        refine lm_val 17 (by kernel_rfl) (fun w1 c1 => (op_move (v := .int .i64 _) rfl)) ?_
        refine lm_ck (fun h42 => ?_)
        refine lm_val 18 (by kernel_rfl) (fun w1 c1 => (op_add rfl rfl h42)) ?_
        refine lm_val 6 (by kernel_rfl) (fun w1 c1 => (op_assign (v := .int .i64 _) rfl)) ?_
        refine lm_nil ?_
        exact xm_lnext () (sub_cons (by kernel_rfl) rfl (sub_cons (by kernel_rfl) rfl (sub_cons (by kernel_rfl) rfl sub_nil))) (hsub [0] (by kernel_rfl) rfl)
      · skip
        refine cm_exit ?_
        refine xm_thenE ?_
        refine xm_lexit ?_
        refine xm_here ?_
        exact xm_lnext () (sub_cons (by kernel_rfl) rfl (sub_cons (by kernel_rfl) rfl sub_nil)) (hsub [0] (by kernel_rfl) rfl)
    intro s23 u24
    refine cm_seq ?_
    refine cm_region ?_
    refine lm_val 26 (by kernel_rfl) (fun w1 c1 => (op_move (v := .int .i64 _) rfl)) ?_
    refine lm_val 27 (by kernel_rfl) (fun w1 c1 => (op_fieldL (m := 1) (k := 1) rfl (by kernel_rfl) rfl)) ?_
    refine lm_val 28 (by kernel_rfl) (fun w1 c1 => (op_load rfl (by kernel_rfl) (c1.cell 0 (u := .int .i64 _) rfl rfl))) ?_
    refine lm_ck (fun h43 => ?_)
    refine lm_val 29 (by kernel_rfl) (fun w1 c1 => (op_mul rfl rfl h43)) ?_
    refine lm_val 2 (by kernel_rfl) (fun w1 c1 => (op_assign (v := .int .i64 _) rfl)) ?_
    refine lm_val 3 (by kernel_rfl) (fun w1 c1 => (op_assign (v := .int .i64 _) rfl)) ?_
    refine lm_nil ?_
    refine xm_next ?_
    refine cm_ret ?_
    exact xm_retTT rfl (by kernel_rfl) (show _ = Value.int .i64 _ from rfl) (by kernel_rfl) (show _ = Value.int .i64 _ from rfl) fun w1 c1 => ⟨(), rfl, hsub [] (by kernel_rfl) rfl w1 c1⟩
/-- recyclingref51.Gain -/
def m_recyclingref51_Gain (N : Nat) (p0 : ApiOutcome) (p1 : Int) (p2 : Int) : Option (Int × Int) :=
  Option.bind (m_recyclingref51_fault N p0) fun r2 => (if r2 ≠ 0 then
    some (((0 : Int), r2))
  else
    (if ((decide (p1 < 0)) || (decide ((List.length p0.Won : Int) ≤ p1))) = true then
      some (((0 : Int), (7 : Int)))
    else
      (if ((decide (p2 < 0)) || (decide (1000000 < p2))) = true then
        some (((0 : Int), (1 : Int)))
      else
        ck ((0 : Int) ≤ p1 ∧ p1 < (List.length p0.Won : Int)) (
          ck (I64 (p2 - p0.Price)) (
            ck (I64 ((ix p0.Won p1) * (p2 - p0.Price))) (
              some ((((ix p0.Won p1) * (p2 - p0.Price)), (0 : Int)))))))))
set_option maxRecDepth 20000 in
theorem m_recyclingref51_Gain_ok (N : Nat) (w0 : World) (p0 : ApiOutcome) (p1 : Int) (p2 : Int) (A_p01 : Option Addr) (n_p01 c_p01 : Nat) (hr_p01 : RdE w0 1 encI A_p01 p0.Won) (hz_p01 : SW A_p01 n_p01 c_p01 (List.length p0.Won)) (r : Int × Int) (hr : m_recyclingref51_Gain N p0 p1 p2 = some r) :
    Calls Try.prog 20 [.agg #[.slice A_p01 n_p01 c_p01, .int .i64 p0.Price], .int .i64 p1, .int .i64 p2].toArray w0 fun x w1 => ∃ u, x = .returned ((fun (r : Int × Int) (_u : Unit) => .tuple #[.int .i64 r.1, .int .i64 r.2]) r u) ∧ Hs w0 ((fun (_r : Int × Int) (_u : Unit) => []) r u) w1 := by
  refine calls_cm (n := 39) (R := fun r x w1 => ∃ u, x = .returned ((fun (r : Int × Int) (_u : Unit) => .tuple #[.int .i64 r.1, .int .i64 r.2]) r u) ∧ Hs w0 ((fun (_r : Int × Int) (_u : Unit) => []) r u) w1) Try.func20 rfl rfl (Nat.le_of_ble_eq_true rfl) ?_ r hr
  unfold m_recyclingref51_Gain
  refine cm_seq ?_
  refine cm_region ?_
  refine lm_box 3 [.slice _ _ _, .int .i64 _] (by kernel_rfl) rfl ?_
  intro b1
  refine lm_val 6 (by kernel_rfl) (fun w1 c1 => (op_assign (v := .int .i64 _) rfl)) ?_
  refine lm_val 7 (by kernel_rfl) (fun w1 c1 => (op_assign (v := .int .i64 _) rfl)) ?_
  refine lm_nil ?_
  refine xm_next ?_
  refine cm_seq ?_
  refine cm_seq ?_
  refine cm_region ?_
  refine lm_val 9 (by kernel_rfl) (fun w1 c1 => (op_loadR [.slice _ _ _, .int .i64 _] rfl (by kernel_rfl) (c1.cells 0 rfl rfl))) ?_
  refine lm_call 10 (V := (fun (r : Int) (_u : Unit) => .int .i64 r)) (HR := (fun (_r : Int) (_u : Unit) => [])) (by kernel_rfl) (fun w1 => op_call (by kernel_rfl)) (fun r1 hr1 w1 c1 => m_recyclingref51_fault_ok N w1 p0 A_p01 n_p01 c_p01 (hr_p01.old c1) hz_p01 r1 hr1) ?_
  intro r2 u3
  refine lm_val 8 (by kernel_rfl) (fun w1 c1 => (op_assign (v := .int .i64 _) rfl)) ?_
  refine lm_nil ?_
  refine xm_next ?_
  refine cm_seq ?_
  refine cm_region ?_
  refine lm_val 11 (by kernel_rfl) (fun w1 c1 => (op_move (v := .int .i64 _) rfl)) ?_
  refine lm_val 12 (by kernel_rfl) (fun w1 c1 => (op_neq rfl rfl)) ?_
  refine lm_nil ?_
  refine xm_next ?_
  refine cm_cond (by kernel_rfl) rfl (fun h4 => ?_) (fun h4 => ?_)
  · skip
    refine cm_seq ?_
    refine cm_region ?_
    refine lm_val 13 (by kernel_rfl) (fun w1 c1 => (op_move (v := .int .i64 _) rfl)) ?_
    refine lm_val 6 (by kernel_rfl) (fun w1 c1 => (op_assign (v := .int .i64 _) rfl)) ?_
    refine lm_val 7 (by kernel_rfl) (fun w1 c1 => (op_assign (v := .int .i64 _) rfl)) ?_
    refine lm_nil ?_
    refine xm_next ?_
    refine cm_ret ?_
    refine xm_thenR ?_
    exact xm_retTT rfl (by kernel_rfl) (show _ = Value.int .i64 _ from rfl) (by kernel_rfl) (show _ = Value.int .i64 _ from rfl) fun w1 c1 => ⟨(), rfl, hsub [] (by kernel_rfl) rfl w1 c1⟩
  · skip
    refine cm_skip ?_
    refine xm_next ?_
    refine cm_seq ?_
    refine cm_seq ?_
    refine cm_cutE [(22, .bool ((decide (p1 < 0)) || (decide ((List.length p0.Won : Int) ≤ p1))))] ?_ ?_
    · skip
      refine wq_val 14 (by kernel_rfl) (fun w1 c1 => (op_move (v := .int .i64 _) rfl)) ?_
      refine wq_dec 15 (by kernel_rfl) (fun w1 c1 => (op_lss rfl rfl)) (fun h5 => ?_) (fun h5 => ?_)
      · skip
        refine wq_val 16 (by kernel_rfl) (fun w1 c1 => (op_move (v := .bool true) rfl)) ?_
        refine wq_skip 17 (by kernel_rfl) ?_
        refine wq_skip 18 (by kernel_rfl) ?_
        refine wq_skip 19 (by kernel_rfl) ?_
        refine wq_skip 20 (by kernel_rfl) ?_
        refine wq_skip 21 (by kernel_rfl) ?_
        refine wq_val 22 (by kernel_rfl) (fun w1 c1 => (op_pick_t (v := .bool true) rfl rfl)) ?_
        exact leaf_q (sub_out 9 _ rfl (by kernel_rfl) ⟨(congrArg Value.bool (by rw [decide_eq_true h5] <;> rfl)), trivial⟩)
      · skip
        refine wq_val 16 (by kernel_rfl) (fun w1 c1 => (op_move (v := .bool false) rfl)) ?_
        refine wq_val 17 (by kernel_rfl) (fun w1 c1 => (op_move (v := .int .i64 _) rfl)) ?_
        refine wq_val 18 (by kernel_rfl) (fun w1 c1 => (op_fieldL (m := 0) (k := 0) rfl (by kernel_rfl) rfl)) ?_
        refine wq_val 19 (by kernel_rfl) (fun w1 c1 => (op_load rfl (by kernel_rfl) (c1.cell 0 (u := .slice _ _ _) rfl rfl))) ?_
        refine wq_val 20 (by kernel_rfl) (fun w1 c1 => (op_lenN rfl (by kernel_rfl) hz_p01.2.2)) ?_
        refine wq_val 21 (by kernel_rfl) (fun w1 c1 => (op_geq rfl rfl)) ?_
        refine wq_val 22 (by kernel_rfl) (fun w1 c1 => (op_pick_f (v := .bool _) rfl rfl)) ?_
        exact leaf_q (sub_out 9 _ rfl (by kernel_rfl) ⟨(congrArg Value.bool (by rw [decide_eq_false h5] <;> rfl)), trivial⟩)
    refine xm_next ?_
    refine cm_condB (by kernel_rfl) rfl (fun h6 => ?_) (fun h6 => ?_)
    · skip
      refine cm_seq ?_
      refine cm_region ?_
      refine lm_val 6 (by kernel_rfl) (fun w1 c1 => (op_assign (v := .int .i64 _) rfl)) ?_
      refine lm_val 7 (by kernel_rfl) (fun w1 c1 => (op_assign (v := .int .i64 _) rfl)) ?_
      refine lm_nil ?_
      refine xm_next ?_
      refine cm_ret ?_
      refine xm_thenR ?_
      exact xm_retTT rfl (by kernel_rfl) (show _ = Value.int .i64 _ from rfl) (by kernel_rfl) (show _ = Value.int .i64 _ from rfl) fun w1 c1 => ⟨(), rfl, hsub [] (by kernel_rfl) rfl w1 c1⟩
    · skip
      refine cm_skip ?_
      refine xm_next ?_
      refine cm_seq ?_
      refine cm_seq ?_
      refine cm_cutE [(28, .bool ((decide (p2 < 0)) || (decide (1000000 < p2))))] ?_ ?_
      · skip
        refine wq_val 23 (by kernel_rfl) (fun w1 c1 => (op_move (v := .int .i64 _) rfl)) ?_
        refine wq_dec 24 (by kernel_rfl) (fun w1 c1 => (op_lss rfl rfl)) (fun h7 => ?_) (fun h7 => ?_)
        · skip
          refine wq_val 25 (by kernel_rfl) (fun w1 c1 => (op_move (v := .bool true) rfl)) ?_
          refine wq_skip 26 (by kernel_rfl) ?_
          refine wq_skip 27 (by kernel_rfl) ?_
          refine wq_val 28 (by kernel_rfl) (fun w1 c1 => (op_pick_t (v := .bool true) rfl rfl)) ?_
          exact leaf_q (sub_out 6 _ rfl (by kernel_rfl) ⟨(congrArg Value.bool (by rw [decide_eq_true h7] <;> rfl)), trivial⟩)
        · skip
          refine wq_val 25 (by kernel_rfl) (fun w1 c1 => (op_move (v := .bool false) rfl)) ?_
          refine wq_val 26 (by kernel_rfl) (fun w1 c1 => (op_move (v := .int .i64 _) rfl)) ?_
          refine wq_val 27 (by kernel_rfl) (fun w1 c1 => (op_gtr rfl rfl)) ?_
          refine wq_val 28 (by kernel_rfl) (fun w1 c1 => (op_pick_f (v := .bool _) rfl rfl)) ?_
          exact leaf_q (sub_out 6 _ rfl (by kernel_rfl) ⟨(congrArg Value.bool (by rw [decide_eq_false h7] <;> rfl)), trivial⟩)
      refine xm_next ?_
      refine cm_condB (by kernel_rfl) rfl (fun h8 => ?_) (fun h8 => ?_)
      · skip
        refine cm_seq ?_
        refine cm_region ?_
        refine lm_val 6 (by kernel_rfl) (fun w1 c1 => (op_assign (v := .int .i64 _) rfl)) ?_
        refine lm_val 7 (by kernel_rfl) (fun w1 c1 => (op_assign (v := .int .i64 _) rfl)) ?_
        refine lm_nil ?_
        refine xm_next ?_
        refine cm_ret ?_
        refine xm_thenR ?_
        exact xm_retTT rfl (by kernel_rfl) (show _ = Value.int .i64 _ from rfl) (by kernel_rfl) (show _ = Value.int .i64 _ from rfl) fun w1 c1 => ⟨(), rfl, hsub [] (by kernel_rfl) rfl w1 c1⟩
      · skip
        refine cm_skip ?_
        refine xm_next ?_
        refine cm_seq ?_
        refine cm_ck (fun h9 => ?_)
        refine cm_ck (fun h10 => ?_)
        refine cm_ck (fun h11 => ?_)
        refine cm_drawn [(6, .int .i64 ((ix p0.Won p1) * (p2 - p0.Price))), (7, .int .i64 0)] (by kernel_rfl) (by kernel_rfl) ?_ ?_
        · skip
          refine wq_val 29 (by kernel_rfl) (fun w1 c1 => (op_fieldL (m := 0) (k := 0) rfl (by kernel_rfl) rfl)) ?_
          refine wq_val 30 (by kernel_rfl) (fun w1 c1 => (op_load rfl (by kernel_rfl) (c1.cell 0 (u := .slice _ _ _) rfl rfl))) ?_
          refine wq_val 31 (by kernel_rfl) (fun w1 c1 => (op_move (v := .int .i64 _) rfl)) ?_
          refine wq_val 32 (by kernel_rfl) (fun w1 c1 => (op_indexA 1 rfl rfl (by kernel_rfl) ((hr_p01.old c1).addr h9.1 h9.2) hz_p01.2.2 h9.1 h9.2)) ?_
          refine wq_val 33 (by kernel_rfl) (fun w1 c1 => (op_load (v := .int .i64 (ix p0.Won p1)) rfl (by kernel_rfl) ((hr_p01.old c1).cell0 h9.1 h9.2 rfl))) ?_
          refine wq_val 34 (by kernel_rfl) (fun w1 c1 => (op_move (v := .int .i64 _) rfl)) ?_
          refine wq_val 35 (by kernel_rfl) (fun w1 c1 => (op_fieldL (m := 1) (k := 1) rfl (by kernel_rfl) rfl)) ?_
          refine wq_val 36 (by kernel_rfl) (fun w1 c1 => (op_load rfl (by kernel_rfl) (c1.cell 0 (u := .int .i64 _) rfl rfl))) ?_
          refine wq_val 37 (by kernel_rfl) (fun w1 c1 => (op_sub rfl rfl h10)) ?_
          refine wq_val 38 (by kernel_rfl) (fun w1 c1 => (op_mul rfl rfl h11)) ?_
          refine wq_val 6 (by kernel_rfl) (fun w1 c1 => (op_assign (v := .int .i64 _) rfl)) ?_
          refine wq_val 7 (by kernel_rfl) (fun w1 c1 => (op_assign (v := .int .i64 _) rfl)) ?_
          exact leaf_q (sub_out 12 _ rfl (by kernel_rfl) ⟨rfl, rfl, trivial⟩)
        refine xm_next ?_
        refine cm_ret ?_
        exact xm_retTT rfl (by kernel_rfl) (show _ = Value.int .i64 _ from rfl) (by kernel_rfl) (show _ = Value.int .i64 _ from rfl) fun w1 c1 => ⟨(), rfl, hsub [] (by kernel_rfl) rfl w1 c1⟩
/-- recyclingref51.Same -/
def m_recyclingref51_Same (N : Nat) (p0 : ApiOutcome) (p1 : ApiOutcome) : Option (Bool) :=
  (if ((decide (p0.Price ≠ p1.Price)) || (decide ((List.length p0.Won : Int) ≠ (List.length p1.Won : Int)))) = true then
    some (false)
  else
    (andThen
      (loopM (fun (s42 : Int) =>
        (if s42 < (List.length p0.Won : Int) then
          ck ((0 : Int) ≤ s42 ∧ s42 < (List.length p0.Won : Int)) (
            ck ((0 : Int) ≤ s42 ∧ s42 < (List.length p1.Won : Int)) (
              (if (ix p0.Won s42) ≠ (ix p1.Won s42) then
                some (.done (.done (false)))
              else
                ck (I64 (s42 + (1 : Int))) (
                  some (.next (s42 + (1 : Int)))))))
        else
          some (.done (.next ())))) N (0 : Int))
    fun (_s26 : Unit) =>
      some (true)))
set_option maxRecDepth 20000 in
theorem m_recyclingref51_Same_ok (N : Nat) (w0 : World) (p0 : ApiOutcome) (p1 : ApiOutcome) (A_p01 : Option Addr) (n_p01 c_p01 : Nat) (A_p11 : Option Addr) (n_p11 c_p11 : Nat) (hr_p01 : RdE w0 1 encI A_p01 p0.Won) (hz_p01 : SW A_p01 n_p01 c_p01 (List.length p0.Won)) (hr_p11 : RdE w0 1 encI A_p11 p1.Won) (hz_p11 : SW A_p11 n_p11 c_p11 (List.length p1.Won)) (r : Bool) (hr : m_recyclingref51_Same N p0 p1 = some r) :
    Calls Try.prog 16 [.agg #[.slice A_p01 n_p01 c_p01, .int .i64 p0.Price], .agg #[.slice A_p11 n_p11 c_p11, .int .i64 p1.Price]].toArray w0 fun x w1 => ∃ u, x = .returned ((fun (r : Bool) (_u : Unit) => .bool r) r u) ∧ Hs w0 ((fun (_r : Bool) (_u : Unit) => []) r u) w1 := by
  refine calls_cm (n := 38) (R := fun r x w1 => ∃ u, x = .returned ((fun (r : Bool) (_u : Unit) => .bool r) r u) ∧ Hs w0 ((fun (_r : Bool) (_u : Unit) => []) r u) w1) Try.func16 rfl rfl (Nat.le_of_ble_eq_true rfl) ?_ r hr
  unfold m_recyclingref51_Same
  refine cm_seq ?_
  refine cm_region ?_
  refine lm_box 2 [.slice _ _ _, .int .i64 _] (by kernel_rfl) rfl ?_
  intro b1
  refine lm_box 3 [.slice _ _ _, .int .i64 _] (by kernel_rfl) rfl ?_
  intro b2
  refine lm_val 4 (by kernel_rfl) (fun w1 c1 => (op_assign (v := .bool false) rfl)) ?_
  refine lm_nil ?_
  refine xm_next ?_
  refine cm_seq ?_
  refine cm_seq ?_
  refine cm_cutE [(19, .bool ((decide (p0.Price ≠ p1.Price)) || (decide ((List.length p0.Won : Int) ≠ (List.length p1.Won : Int)))))] ?_ ?_
  · skip
    refine wq_val 6 (by kernel_rfl) (fun w1 c1 => (op_fieldL (m := 1) (k := 1) rfl (by kernel_rfl) rfl)) ?_
    refine wq_val 7 (by kernel_rfl) (fun w1 c1 => (op_load rfl (by kernel_rfl) (c1.cell 1 (u := .int .i64 _) rfl rfl))) ?_
    refine wq_val 8 (by kernel_rfl) (fun w1 c1 => (op_fieldL (m := 1) (k := 1) rfl (by kernel_rfl) rfl)) ?_
    refine wq_val 9 (by kernel_rfl) (fun w1 c1 => (op_load rfl (by kernel_rfl) (c1.cell 0 (u := .int .i64 _) rfl rfl))) ?_
    refine wq_dec 10 (by kernel_rfl) (fun w1 c1 => (op_neq rfl rfl)) (fun h3 => ?_) (fun h3 => ?_)
    · skip
      refine wq_val 11 (by kernel_rfl) (fun w1 c1 => (op_move (v := .bool true) rfl)) ?_
      refine wq_skip 12 (by kernel_rfl) ?_
      refine wq_skip 13 (by kernel_rfl) ?_
      refine wq_skip 14 (by kernel_rfl) ?_
      refine wq_skip 15 (by kernel_rfl) ?_
      refine wq_skip 16 (by kernel_rfl) ?_
      refine wq_skip 17 (by kernel_rfl) ?_
      refine wq_skip 18 (by kernel_rfl) ?_
      refine wq_val 19 (by kernel_rfl) (fun w1 c1 => (op_pick_t (v := .bool true) rfl rfl)) ?_
      exact leaf_q (sub_out 14 _ rfl (by kernel_rfl) ⟨(congrArg Value.bool (by rw [decide_eq_true h3] <;> rfl)), trivial⟩)
    · skip
      refine wq_val 11 (by kernel_rfl) (fun w1 c1 => (op_move (v := .bool false) rfl)) ?_
      refine wq_val 12 (by kernel_rfl) (fun w1 c1 => (op_fieldL (m := 0) (k := 0) rfl (by kernel_rfl) rfl)) ?_
      refine wq_val 13 (by kernel_rfl) (fun w1 c1 => (op_load rfl (by kernel_rfl) (c1.cell 1 (u := .slice _ _ _) rfl rfl))) ?_
      refine wq_val 14 (by kernel_rfl) (fun w1 c1 => (op_lenN rfl (by kernel_rfl) hz_p01.2.2)) ?_
      refine wq_val 15 (by kernel_rfl) (fun w1 c1 => (op_fieldL (m := 0) (k := 0) rfl (by kernel_rfl) rfl)) ?_
      refine wq_val 16 (by kernel_rfl) (fun w1 c1 => (op_load rfl (by kernel_rfl) (c1.cell 0 (u := .slice _ _ _) rfl rfl))) ?_
      refine wq_val 17 (by kernel_rfl) (fun w1 c1 => (op_lenN rfl (by kernel_rfl) hz_p11.2.2)) ?_
      refine wq_val 18 (by kernel_rfl) (fun w1 c1 => (op_neq rfl rfl)) ?_
      refine wq_val 19 (by kernel_rfl) (fun w1 c1 => (op_pick_f (v := .bool _) rfl rfl)) ?_
      exact leaf_q (sub_out 14 _ rfl (by kernel_rfl) ⟨(congrArg Value.bool (by rw [decide_eq_false h3] <;> rfl)), trivial⟩)
  refine xm_next ?_
  refine cm_condB (by kernel_rfl) rfl (fun h4 => ?_) (fun h4 => ?_)
  · skip
    refine cm_seq ?_
    refine cm_region ?_
    refine lm_val 4 (by kernel_rfl) (fun w1 c1 => (op_assign (v := .bool false) rfl)) ?_
    refine lm_nil ?_
    refine xm_next ?_
    refine cm_ret ?_
    refine xm_thenR ?_
    exact xm_retT rfl (by kernel_rfl) (show _ = Value.bool false from rfl) fun w1 c1 => ⟨(), rfl, hsub [] (by kernel_rfl) rfl w1 c1⟩
  · skip
    refine cm_skip ?_
    refine xm_next ?_
    refine cm_join (σ := Unit) (ξ := Unit) (fun s26 u27 => []) (fun s26 u27 => []) ?_ ?_
    · skip
      refine cm_seq ?_
      refine cm_region ?_
      refine lm_val 5 (by kernel_rfl) (fun w1 c1 => (op_assign (v := .int .i64 _) rfl)) ?_
      refine lm_nil ?_
      refine xm_next ?_
      refine cm_block ?_
      refine cm_loop (σ := Int) (ξ := Unit) (fun s42 u43 => [(2, .pointer (some ⟨b1, 0, none⟩)), (3, .pointer (some ⟨b2, 0, none⟩)), (5, .int .i64 s42)]) (fun s42 u43 => [blkE b1 29 [.slice A_p01 n_p01 c_p01, .int .i64 p0.Price], blkE b2 29 [.slice A_p11 n_p11 c_p11, .int .i64 p1.Price]]) () ?_ ?_ ?_
      · exact (sub_cons (by kernel_rfl) rfl (sub_cons (by kernel_rfl) rfl (sub_cons (by kernel_rfl) rfl sub_nil)))
      · exact hsub [1, 0] (by kernel_rfl) rfl
      intro s42 u43
      refine cm_seq ?_
      refine cm_seq ?_
      refine cm_region ?_
      refine lm_val 20 (by kernel_rfl) (fun w1 c1 => (op_move (v := .int .i64 _) rfl)) ?_
      refine lm_val 21 (by kernel_rfl) (fun w1 c1 => (op_fieldL (m := 0) (k := 0) rfl (by kernel_rfl) rfl)) ?_
      refine lm_val 22 (by kernel_rfl) (fun w1 c1 => (op_load rfl (by kernel_rfl) (c1.cell 0 (u := .slice _ _ _) rfl rfl))) ?_
      refine lm_val 23 (by kernel_rfl) (fun w1 c1 => (op_lenN rfl (by kernel_rfl) hz_p01.2.2)) ?_
      refine lm_val 24 (by kernel_rfl) (fun w1 c1 => (op_lss rfl rfl)) ?_
      refine lm_nil ?_
      refine xm_next ?_
      refine cm_cond (by kernel_rfl) rfl (fun h44 => ?_) (fun h44 => ?_)
      · skip
        refine cm_skip ?_
        refine xm_next ?_
        refine cm_seq ?_
        refine cm_block ?_
        refine cm_seq ?_
        refine cm_ck (fun h45 => ?_)
        refine cm_ck (fun h46 => ?_)
        refine cm_drawn [(37, .bool (decide ((ix p0.Won s42) ≠ (ix p1.Won s42))))] (by kernel_rfl) (by kernel_rfl) ?_ ?_
        · skip
          refine wq_val 27 (by kernel_rfl) (fun w1 c1 => (op_fieldL (m := 0) (k := 0) rfl (by kernel_rfl) rfl)) ?_
          refine wq_val 28 (by kernel_rfl) (fun w1 c1 => (op_load rfl (by kernel_rfl) (c1.cell 0 (u := .slice _ _ _) rfl rfl))) ?_
          refine wq_val 29 (by kernel_rfl) (fun w1 c1 => (op_move (v := .int .i64 _) rfl)) ?_
          refine wq_val 30 (by kernel_rfl) (fun w1 c1 => (op_indexA 1 rfl rfl (by kernel_rfl) ((hr_p01.old c1).addr h45.1 h45.2) hz_p01.2.2 h45.1 h45.2)) ?_
          refine wq_val 31 (by kernel_rfl) (fun w1 c1 => (op_load (v := .int .i64 (ix p0.Won s42)) rfl (by kernel_rfl) ((hr_p01.old c1).cell0 h45.1 h45.2 rfl))) ?_
          refine wq_val 32 (by kernel_rfl) (fun w1 c1 => (op_fieldL (m := 0) (k := 0) rfl (by kernel_rfl) rfl)) ?_
          refine wq_val 33 (by kernel_rfl) (fun w1 c1 => (op_load rfl (by kernel_rfl) (c1.cell 1 (u := .slice _ _ _) rfl rfl))) ?_
          refine wq_val 34 (by kernel_rfl) (fun w1 c1 => (op_move (v := .int .i64 _) rfl)) ?_
          refine wq_val 35 (by kernel_rfl) (fun w1 c1 => (op_indexA 1 rfl rfl (by kernel_rfl) ((hr_p11.old c1).addr h46.1 h46.2) hz_p11.2.2 h46.1 h46.2)) ?_
          refine wq_val 36 (by kernel_rfl) (fun w1 c1 => (op_load (v := .int .i64 (ix p1.Won s42)) rfl (by kernel_rfl) ((hr_p11.old c1).cell0 h46.1 h46.2 rfl))) ?_
          refine wq_val 37 (by kernel_rfl) (fun w1 c1 => (op_neq rfl rfl)) ?_
          exact leaf_q (sub_out 11 _ rfl (by kernel_rfl) ⟨rfl, trivial⟩)
        refine xm_next ?_
        refine cm_cond (by kernel_rfl) rfl (fun h47 => ?_) (fun h47 => ?_)
        · skip
          refine cm_seq ?_
          refine cm_region ?_
          refine lm_val 4 (by kernel_rfl) (fun w1 c1 => (op_assign (v := .bool false) rfl)) ?_
          refine lm_nil ?_
          refine xm_next ?_
          refine cm_ret ?_
          refine xm_inR ?_
          refine xm_thenR ?_
          refine xm_lret ?_
          refine xm_inR ?_
          refine xm_lret ?_
          exact xm_retT rfl (by kernel_rfl) (show _ = Value.bool false from rfl) fun w1 c1 => ⟨(), rfl, hsub [] (by kernel_rfl) rfl w1 c1⟩
        · skip
          refine cm_skip ?_
          refine xm_inN ?_
          refine xm_next ?_
          refine cm_region ?_
          refine lm_val 25 (by kernel_rfl) (fun w1 c1 => (op_move (v := .int .i64 _) rfl)) ?_
          refine lm_ck (fun h48 => ?_)
          refine lm_val 26 (by kernel_rfl) (fun w1 c1 => (op_add rfl rfl h48)) ?_
          refine lm_val 5 (by kernel_rfl) (fun w1 c1 => (op_assign (v := .int .i64 _) rfl)) ?_
          refine lm_nil ?_
          exact xm_lnext () (sub_cons (by kernel_rfl) rfl (sub_cons (by kernel_rfl) rfl (sub_cons (by kernel_rfl) rfl sub_nil))) (hsub [0, 1] (by kernel_rfl) rfl)
      · skip
        refine cm_exit ?_
        refine xm_thenE ?_
        refine xm_lexit ?_
        refine xm_here ?_
        exact xm_lnext () sub_nil (hsub [] (by kernel_rfl) rfl)
    intro s26 u27
    refine cm_seq ?_
    refine cm_region ?_
    refine lm_val 4 (by kernel_rfl) (fun w1 c1 => (op_assign (v := .bool true) rfl)) ?_
    refine lm_nil ?_
    refine xm_next ?_
    refine cm_ret ?_
    exact xm_retT rfl (by kernel_rfl) (show _ = Value.bool true from rfl) fun w1 c1 => ⟨(), rfl, hsub [] (by kernel_rfl) rfl w1 c1⟩
/-- recyclingref51.Run -/
def m_recyclingref51_Run (N : Nat) (p0 : (List ApiBid)) (p1 : Int) (p2 : Int) : Option (ApiOutcome × Int) :=
  Option.bind (m_recyclingref51_Check N p0) fun r2 => (if r2 ≠ 0 then
    some (((ApiOutcome.mk ([] : List Int) 0), r2))
  else
    (if ((((decide (p1 < 0)) || (decide (1000 < p1))) || (decide (p2 < 0))) || (decide (1000000 < p2))) = true then
      some (((ApiOutcome.mk ([] : List Int) 0), (1 : Int)))
    else
      ck ((0 : Int) ≤ (List.length p0 : Int) ∧ Int.toNat (List.length p0 : Int) * 8 ≤ 140737488355328) (
        (andThen
          (loopM (fun (s66 : (List Int) × Int) =>
            (if s66.2 < p1 then
              Option.bind (m_recyclingref51_next N p0 s66.1 p2) fun r69 => (if r69 < 0 then
                some (.done (.next s66.1))
              else
                ck ((0 : Int) ≤ r69 ∧ r69 < (List.length s66.1 : Int)) (
                  ck (I64 ((ix s66.1 r69) + (1 : Int))) (
                    ck ((0 : Int) ≤ r69 ∧ r69 < (List.length s66.1 : Int)) (
                      ck (I64 (s66.2 + (1 : Int))) (
                        some (.next ((List.set s66.1 (Int.toNat r69) ((ix s66.1 r69) + (1 : Int))), (s66.2 + (1 : Int)))))))))
            else
              some (.done (.next s66.1)))) N ((List.replicate (Int.toNat (List.length p0 : Int)) (0 : Int)), (0 : Int)))
        fun (s44 : (List Int)) =>
          (andThen
            (Option.bind (m_recyclingref51_next N p0 s44 p2) fun r82 => (if 0 ≤ r82 then
              ck ((0 : Int) ≤ r82 ∧ r82 < (List.length p0 : Int)) (
                some (.next ((ix p0 r82).Price)))
            else
              some (.next p2)))
          fun (s80 : Int) =>
            some (((ApiOutcome.mk s44 s80), (0 : Int))))))))
set_option maxRecDepth 20000 in
theorem m_recyclingref51_Run_ok (N : Nat) (w0 : World) (p0 : (List ApiBid)) (p1 : Int) (p2 : Int) (A_p0 : Option Addr) (n_p0 c_p0 : Nat) (hr_p0 : RdE w0 3 encApiBid A_p0 p0) (hz_p0 : SW A_p0 n_p0 c_p0 (List.length p0)) (r : ApiOutcome × Int) (hr : m_recyclingref51_Run N p0 p1 p2 = some r) :
    Calls Try.prog 15 [.slice A_p0 n_p0 c_p0, .int .i64 p1, .int .i64 p2].toArray w0 fun x w1 => ∃ u, x = .returned ((fun (r : ApiOutcome × Int) (u : (Option Addr) × Nat × Nat) => .tuple #[.agg #[.slice u.1 u.2.1 u.2.2, .int .i64 r.1.Price], .int .i64 r.2]) r u) ∧ Hs w0 ((fun (r : ApiOutcome × Int) (u : (Option Addr) × Nat × Nat) => [ownE 3 1 encI u.1 u.2.1 u.2.2 r.1.Won]) r u) w1 := by
  refine calls_cm (n := 72) (R := fun r x w1 => ∃ u, x = .returned ((fun (r : ApiOutcome × Int) (u : (Option Addr) × Nat × Nat) => .tuple #[.agg #[.slice u.1 u.2.1 u.2.2, .int .i64 r.1.Price], .int .i64 r.2]) r u) ∧ Hs w0 ((fun (r : ApiOutcome × Int) (u : (Option Addr) × Nat × Nat) => [ownE 3 1 encI u.1 u.2.1 u.2.2 r.1.Won]) r u) w1) Try.func15 rfl rfl (Nat.le_of_ble_eq_true rfl) ?_ r hr
  unfold m_recyclingref51_Run
  refine cm_seq ?_
  refine cm_region ?_
  refine lm_alloc 6 [.slice none 0 0, .int .i64 0] (v := .agg #[.slice none 0 0, .int .i64 0]) (by kernel_rfl) (by kernel_rfl) rfl ?_
  intro b1
  refine lm_val 7 (by kernel_rfl) (fun w1 c1 => (op_assign (v := .int .i64 _) rfl)) ?_
  refine lm_nil ?_
  refine xm_next ?_
  refine cm_seq ?_
  refine cm_seq ?_
  refine cm_region ?_
  refine lm_val 14 (by kernel_rfl) (fun w1 c1 => (op_move (v := .slice _ _ _) rfl)) ?_
  refine lm_call 15 (V := (fun (r : Int) (_u : Unit) => .int .i64 r)) (HR := (fun (_r : Int) (_u : Unit) => [])) (by kernel_rfl) (fun w1 => op_call (by kernel_rfl)) (fun r1 hr1 w1 c1 => m_recyclingref51_Check_ok N w1 p0 A_p0 n_p0 c_p0 (hr_p0.old c1) hz_p0 r1 hr1) ?_
  intro r2 u3
  refine lm_val 8 (by kernel_rfl) (fun w1 c1 => (op_assign (v := .int .i64 _) rfl)) ?_
  refine lm_nil ?_
  refine xm_next ?_
  refine cm_seq ?_
  refine cm_region ?_
  refine lm_val 16 (by kernel_rfl) (fun w1 c1 => (op_move (v := .int .i64 _) rfl)) ?_
  refine lm_val 17 (by kernel_rfl) (fun w1 c1 => (op_neq rfl rfl)) ?_
  refine lm_nil ?_
  refine xm_next ?_
  refine cm_cond (by kernel_rfl) rfl (fun h4 => ?_) (fun h4 => ?_)
  · skip
    refine cm_seq ?_
    refine cm_region ?_
    refine lm_val 18 (by kernel_rfl) (fun w1 c1 => (op_build (z := [.slice none 0 0, .int .i64 0]) (tab := [(0, 1), (1, 1)]) (cs := [.slice _ _ _, .int .i64 _]) [] (by kernel_rfl) (by kernel_rfl) fillOk_nil rfl)) ?_
    refine lm_val 19 (by kernel_rfl) (fun w1 c1 => (op_move (v := .int .i64 _) rfl)) ?_
    refine lm_storeA 0 [.slice _ _ _, .int .i64 _] [_, _] (H' := [blkE _ _ [_, _]]) (by kernel_rfl) rfl rfl (by kernel_rfl) rfl rfl (by kernel_rfl) rfl rfl ?_
    refine lm_val 7 (by kernel_rfl) (fun w1 c1 => (op_assign (v := .int .i64 _) rfl)) ?_
    refine lm_nil ?_
    refine xm_next ?_
    refine cm_ret ?_
    refine xm_thenR ?_
    refine xm_nilrow 3 1 encI ?_
    exact xm_retCT rfl (by kernel_rfl) (show _ = Value.pointer (some ⟨_, 0, none⟩) from rfl) (by kernel_rfl) (fun w1 c1 => c1.cells 1 (ds := [.slice _ _ _, .int .i64 _]) rfl rfl) (by kernel_rfl) (show _ = Value.int .i64 _ from rfl) fun w1 c1 => ⟨(none, 0, 0), rfl, hsub [0] (by kernel_rfl) rfl w1 c1⟩
  · skip
    refine cm_skip ?_
    refine xm_next ?_
    refine cm_seq ?_
    refine cm_seq ?_
    refine cm_cutE [(33, .bool ((((decide (p1 < 0)) || (decide (1000 < p1))) || (decide (p2 < 0))) || (decide (1000000 < p2))))] ?_ ?_
    · skip
      refine wq_val 20 (by kernel_rfl) (fun w1 c1 => (op_move (v := .int .i64 _) rfl)) ?_
      refine wq_dec 21 (by kernel_rfl) (fun w1 c1 => (op_lss rfl rfl)) (fun h5 => ?_) (fun h5 => ?_)
      · skip
        refine wq_val 22 (by kernel_rfl) (fun w1 c1 => (op_move (v := .bool true) rfl)) ?_
        refine wq_skip 23 (by kernel_rfl) ?_
        refine wq_skip 24 (by kernel_rfl) ?_
        refine wq_val 25 (by kernel_rfl) (fun w1 c1 => (op_pick_t (v := .bool true) rfl rfl)) ?_
        refine wq_val 26 (by kernel_rfl) (fun w1 c1 => (op_move (v := .bool true) rfl)) ?_
        refine wq_skip 27 (by kernel_rfl) ?_
        refine wq_skip 28 (by kernel_rfl) ?_
        refine wq_val 29 (by kernel_rfl) (fun w1 c1 => (op_pick_t (v := .bool true) rfl rfl)) ?_
        refine wq_val 30 (by kernel_rfl) (fun w1 c1 => (op_move (v := .bool true) rfl)) ?_
        refine wq_skip 31 (by kernel_rfl) ?_
        refine wq_skip 32 (by kernel_rfl) ?_
        refine wq_val 33 (by kernel_rfl) (fun w1 c1 => (op_pick_t (v := .bool true) rfl rfl)) ?_
        exact leaf_q (sub_out 14 _ rfl (by kernel_rfl) ⟨(congrArg Value.bool (by rw [decide_eq_true h5] <;> rfl)), trivial⟩)
      · skip
        refine wq_val 22 (by kernel_rfl) (fun w1 c1 => (op_move (v := .bool false) rfl)) ?_
        refine wq_val 23 (by kernel_rfl) (fun w1 c1 => (op_move (v := .int .i64 _) rfl)) ?_
        refine wq_dec 24 (by kernel_rfl) (fun w1 c1 => (op_gtr rfl rfl)) (fun h6 => ?_) (fun h6 => ?_)
        · skip
          refine wq_val 25 (by kernel_rfl) (fun w1 c1 => (op_pick_f (v := .bool true) rfl rfl)) ?_
          refine wq_val 26 (by kernel_rfl) (fun w1 c1 => (op_move (v := .bool true) rfl)) ?_
          refine wq_skip 27 (by kernel_rfl) ?_
          refine wq_skip 28 (by kernel_rfl) ?_
          refine wq_val 29 (by kernel_rfl) (fun w1 c1 => (op_pick_t (v := .bool true) rfl rfl)) ?_
          refine wq_val 30 (by kernel_rfl) (fun w1 c1 => (op_move (v := .bool true) rfl)) ?_
          refine wq_skip 31 (by kernel_rfl) ?_
          refine wq_skip 32 (by kernel_rfl) ?_
          refine wq_val 33 (by kernel_rfl) (fun w1 c1 => (op_pick_t (v := .bool true) rfl rfl)) ?_
          exact leaf_q (sub_out 14 _ rfl (by kernel_rfl) ⟨(congrArg Value.bool (by rw [decide_eq_false h5, decide_eq_true h6] <;> rfl)), trivial⟩)
        · skip
          refine wq_val 25 (by kernel_rfl) (fun w1 c1 => (op_pick_f (v := .bool false) rfl rfl)) ?_
          refine wq_val 26 (by kernel_rfl) (fun w1 c1 => (op_move (v := .bool false) rfl)) ?_
          refine wq_val 27 (by kernel_rfl) (fun w1 c1 => (op_move (v := .int .i64 _) rfl)) ?_
          refine wq_dec 28 (by kernel_rfl) (fun w1 c1 => (op_lss rfl rfl)) (fun h7 => ?_) (fun h7 => ?_)
          · skip
            refine wq_val 29 (by kernel_rfl) (fun w1 c1 => (op_pick_f (v := .bool true) rfl rfl)) ?_
            refine wq_val 30 (by kernel_rfl) (fun w1 c1 => (op_move (v := .bool true) rfl)) ?_
            refine wq_skip 31 (by kernel_rfl) ?_
            refine wq_skip 32 (by kernel_rfl) ?_
            refine wq_val 33 (by kernel_rfl) (fun w1 c1 => (op_pick_t (v := .bool true) rfl rfl)) ?_
            exact leaf_q (sub_out 14 _ rfl (by kernel_rfl) ⟨(congrArg Value.bool (by rw [decide_eq_false h5, decide_eq_false h6, decide_eq_true h7] <;> rfl)), trivial⟩)
          · skip
            refine wq_val 29 (by kernel_rfl) (fun w1 c1 => (op_pick_f (v := .bool false) rfl rfl)) ?_
            refine wq_val 30 (by kernel_rfl) (fun w1 c1 => (op_move (v := .bool false) rfl)) ?_
            refine wq_val 31 (by kernel_rfl) (fun w1 c1 => (op_move (v := .int .i64 _) rfl)) ?_
            refine wq_val 32 (by kernel_rfl) (fun w1 c1 => (op_gtr rfl rfl)) ?_
            refine wq_val 33 (by kernel_rfl) (fun w1 c1 => (op_pick_f (v := .bool _) rfl rfl)) ?_
            exact leaf_q (sub_out 14 _ rfl (by kernel_rfl) ⟨(congrArg Value.bool (by rw [decide_eq_false h5, decide_eq_false h6, decide_eq_false h7] <;> rfl)), trivial⟩)
    refine xm_next ?_
    refine cm_condB (by kernel_rfl) rfl (fun h8 => ?_) (fun h8 => ?_)
    · skip
      refine cm_seq ?_
      refine cm_region ?_
      refine lm_val 34 (by kernel_rfl) (fun w1 c1 => (op_build (z := [.slice none 0 0, .int .i64 0]) (tab := [(0, 1), (1, 1)]) (cs := [.slice _ _ _, .int .i64 _]) [] (by kernel_rfl) (by kernel_rfl) fillOk_nil rfl)) ?_
      refine lm_storeA 0 [.slice _ _ _, .int .i64 _] [_, _] (H' := [blkE _ _ [_, _]]) (by kernel_rfl) rfl rfl (by kernel_rfl) rfl rfl (by kernel_rfl) rfl rfl ?_
      refine lm_val 7 (by kernel_rfl) (fun w1 c1 => (op_assign (v := .int .i64 _) rfl)) ?_
      refine lm_nil ?_
      refine xm_next ?_
      refine cm_ret ?_
      refine xm_thenR ?_
      refine xm_nilrow 3 1 encI ?_
      exact xm_retCT rfl (by kernel_rfl) (show _ = Value.pointer (some ⟨_, 0, none⟩) from rfl) (by kernel_rfl) (fun w1 c1 => c1.cells 1 (ds := [.slice _ _ _, .int .i64 _]) rfl rfl) (by kernel_rfl) (show _ = Value.int .i64 _ from rfl) fun w1 c1 => ⟨(none, 0, 0), rfl, hsub [0] (by kernel_rfl) rfl w1 c1⟩
    · skip
      refine cm_skip ?_
      refine xm_next ?_
      refine cm_seq ?_
      refine cm_region ?_
      refine lm_val 35 (by kernel_rfl) (fun w1 c1 => (op_move (v := .slice _ _ _) rfl)) ?_
      refine lm_val 36 (by kernel_rfl) (fun w1 c1 => (op_lenN rfl (by kernel_rfl) hz_p0.2.2)) ?_
      refine lm_ck (fun h9 => ?_)
      refine lm_make 37 (el := 3) (sz := 1) (bytes := 8) (enc := encI) (0 : Int) (zv := .int .i64 0) (by kernel_rfl) (by kernel_rfl) (by kernel_rfl) rfl encI_len rfl rfl h9.1 h9.2 (by kernel_rfl) ?_
      intro A10 n11 k12 h13
      refine lm_val 9 (by kernel_rfl) (fun w1 c1 => (op_assign (v := .slice _ _ _) rfl)) ?_
      refine lm_nil ?_
      refine xm_next ?_
      refine cm_join (σ := (List Int)) (ξ := (Option Addr) × Nat × Nat) (fun s44 u45 => [(0, .slice A_p0 n_p0 c_p0), (2, .int .i64 p2), (6, .pointer (some ⟨b1, 0, none⟩)), (9, .slice u45.1 u45.2.1 u45.2.2)]) (fun s44 u45 => [blkE b1 29 [.slice none 0 0, .int .i64 0], ownE 3 1 encI u45.1 u45.2.1 u45.2.2 s44]) ?_ ?_
      · skip
        refine cm_seq ?_
        refine cm_region ?_
        refine lm_val 10 (by kernel_rfl) (fun w1 c1 => (op_assign (v := .int .i64 _) rfl)) ?_
        refine lm_nil ?_
        refine xm_next ?_
        refine cm_block ?_
        refine cm_loop (σ := (List Int) × Int) (ξ := (Option Addr) × Nat × Nat) (fun s66 u67 => [(0, .slice A_p0 n_p0 c_p0), (1, .int .i64 p1), (2, .int .i64 p2), (6, .pointer (some ⟨b1, 0, none⟩)), (9, .slice u67.1 u67.2.1 u67.2.2), (10, .int .i64 s66.2)]) (fun s66 u67 => [blkE b1 29 [.slice none 0 0, .int .i64 0], ownE 3 1 encI u67.1 u67.2.1 u67.2.2 s66.1]) (A10, n11, k12) ?_ ?_ ?_
        · exact (sub_cons (by kernel_rfl) rfl (sub_cons (by kernel_rfl) rfl (sub_cons (by kernel_rfl) rfl (sub_cons (by kernel_rfl) rfl (sub_cons (by kernel_rfl) rfl (sub_cons (by kernel_rfl) rfl sub_nil))))))
        · exact hsub [1, 0] (by kernel_rfl) rfl
        intro s66 u67
        refine cm_seq ?_
        refine cm_seq ?_
        refine cm_region ?_
        refine lm_val 38 (by kernel_rfl) (fun w1 c1 => (op_move (v := .int .i64 _) rfl)) ?_
        refine lm_val 39 (by kernel_rfl) (fun w1 c1 => (op_move (v := .int .i64 _) rfl)) ?_
        refine lm_val 40 (by kernel_rfl) (fun w1 c1 => (op_lss rfl rfl)) ?_
        refine lm_nil ?_
        refine xm_next ?_
        refine cm_cond (by kernel_rfl) rfl (fun h68 => ?_) (fun h68 => ?_)
        · skip
          refine cm_skip ?_
          refine xm_next ?_
          refine cm_seq ?_
          refine cm_block ?_
          refine cm_seq ?_
          refine cm_region ?_
          refine lm_val 43 (by kernel_rfl) (fun w1 c1 => (op_move (v := .slice _ _ _) rfl)) ?_
          refine lm_val 44 (by kernel_rfl) (fun w1 c1 => (op_move (v := .slice _ _ _) rfl)) ?_
          refine lm_val 45 (by kernel_rfl) (fun w1 c1 => (op_move (v := .int .i64 _) rfl)) ?_
          refine lm_call 46 (V := (fun (r : Int) (_u : Unit) => .int .i64 r)) (HR := (fun (_r : Int) (_u : Unit) => [])) (by kernel_rfl) (fun w1 => op_call (by kernel_rfl)) (fun r1 hr1 w1 c1 => m_recyclingref51_next_ok N w1 p0 s66.1 p2 A_p0 n_p0 c_p0 u67.1 u67.2.1 u67.2.2 (hr_p0.old c1) hz_p0 (c1.own 1 rfl encI_len) (c1.ownZ 1 rfl) r1 hr1) ?_
          intro r69 u70
          refine lm_val 11 (by kernel_rfl) (fun w1 c1 => (op_assign (v := .int .i64 _) rfl)) ?_
          refine lm_nil ?_
          refine xm_next ?_
          refine cm_seq ?_
          refine cm_seq ?_
          refine cm_region ?_
          refine lm_val 47 (by kernel_rfl) (fun w1 c1 => (op_move (v := .int .i64 _) rfl)) ?_
          refine lm_val 48 (by kernel_rfl) (fun w1 c1 => (op_lss rfl rfl)) ?_
          refine lm_nil ?_
          refine xm_next ?_
          refine cm_cond (by kernel_rfl) rfl (fun h71 => ?_) (fun h71 => ?_)
          · skip
            refine cm_exit ?_
            refine xm_thenE ?_
            refine xm_pass (by kernel_rfl) ?_
            refine xm_thenE ?_
            refine xm_lexit ?_
            refine xm_here ?_
            exact xm_lnext (u67.1, u67.2.1, u67.2.2) (sub_cons (by kernel_rfl) rfl (sub_cons (by kernel_rfl) rfl (sub_cons (by kernel_rfl) rfl (sub_cons (by kernel_rfl) rfl sub_nil)))) (hsub [0, 1] (by kernel_rfl) rfl)
          · skip
            refine cm_skip ?_
            refine xm_next ?_
            refine cm_region ?_
            refine lm_val 49 (by kernel_rfl) (fun w1 c1 => (op_move (v := .slice _ _ _) rfl)) ?_
            refine lm_val 50 (by kernel_rfl) (fun w1 c1 => (op_move (v := .int .i64 _) rfl)) ?_
            refine lm_val 51 (by kernel_rfl) (fun w1 c1 => (op_move (v := .slice _ _ _) rfl)) ?_
            refine lm_val 52 (by kernel_rfl) (fun w1 c1 => (op_move (v := .int .i64 _) rfl)) ?_
            refine lm_ck (fun h72 => ?_)
            refine lm_val 53 (by kernel_rfl) (fun w1 c1 => (op_indexA 1 rfl rfl (by kernel_rfl) ((c1.own 1 rfl encI_len).addr h72.1 h72.2) (c1.ownZ 1 rfl).2.2 h72.1 h72.2)) ?_
            refine lm_val 54 (by kernel_rfl) (fun w1 c1 => (op_load (v := .int .i64 (ix s66.1 r69)) rfl (by kernel_rfl) ((c1.own 1 rfl encI_len).cell0 h72.1 h72.2 rfl))) ?_
            refine lm_ck (fun h73 => ?_)
            refine lm_val 55 (by kernel_rfl) (fun w1 c1 => (op_add rfl rfl h73)) ?_
            refine lm_ck (fun h74 => ?_)
            refine lm_val 56 (by kernel_rfl) (fun w1 c1 => (op_indexA 1 rfl rfl (by kernel_rfl) ((c1.own 1 rfl encI_len).addr h74.1 h74.2) (c1.ownZ 1 rfl).2.2 h74.1 h74.2)) ?_
            refine lm_storeIx 1 ((ix s66.1 r69) + (1 : Int)) 0 [.int .i64 _] (by kernel_rfl) rfl rfl (by kernel_rfl) rfl rfl rfl encI_len encI_one h74.1 h74.2 (by kernel_rfl) rfl ?_
            refine lm_nil ?_
            refine xm_inN ?_
            refine xm_next ?_
            refine cm_region ?_
            refine lm_val 41 (by kernel_rfl) (fun w1 c1 => (op_move (v := .int .i64 _) rfl)) ?_
            refine lm_ck (fun h75 => ?_)
            refine lm_val 42 (by kernel_rfl) (fun w1 c1 => (op_add rfl rfl h75)) ?_
            refine lm_val 10 (by kernel_rfl) (fun w1 c1 => (op_assign (v := .int .i64 _) rfl)) ?_
            refine lm_nil ?_
            exact xm_lnext (u67.1, u67.2.1, u67.2.2) (sub_cons (by kernel_rfl) rfl (sub_cons (by kernel_rfl) rfl (sub_cons (by kernel_rfl) rfl (sub_cons (by kernel_rfl) rfl (sub_cons (by kernel_rfl) rfl (sub_cons (by kernel_rfl) rfl sub_nil)))))) (hsub [0, 1] (by kernel_rfl) rfl)
        · skip
          refine cm_exit ?_
          refine xm_thenE ?_
          refine xm_lexit ?_
          refine xm_here ?_
          exact xm_lnext (u67.1, u67.2.1, u67.2.2) (sub_cons (by kernel_rfl) rfl (sub_cons (by kernel_rfl) rfl (sub_cons (by kernel_rfl) rfl (sub_cons (by kernel_rfl) rfl sub_nil)))) (hsub [0, 1] (by kernel_rfl) rfl)
      intro s44 u45
      refine cm_seq ?_
      refine cm_region ?_
      refine lm_val 57 (by kernel_rfl) (fun w1 c1 => (op_move (v := .int .i64 _) rfl)) ?_
      refine lm_val 12 (by kernel_rfl) (fun w1 c1 => (op_assign (v := .int .i64 _) rfl)) ?_
      refine lm_nil ?_
      refine xm_next ?_
      refine cm_join (σ := Int) (ξ := Unit) (fun s80 u81 => [(6, .pointer (some ⟨b1, 0, none⟩)), (9, .slice u45.1 u45.2.1 u45.2.2), (12, .int .i64 s80)]) (fun s80 u81 => [blkE b1 29 [.slice none 0 0, .int .i64 0], ownE 3 1 encI u45.1 u45.2.1 u45.2.2 s44]) ?_ ?_
      · skip
        refine cm_seq ?_
        refine cm_region ?_
        refine lm_val 58 (by kernel_rfl) (fun w1 c1 => (op_move (v := .slice _ _ _) rfl)) ?_
        refine lm_val 59 (by kernel_rfl) (fun w1 c1 => (op_move (v := .slice _ _ _) rfl)) ?_
        refine lm_val 60 (by kernel_rfl) (fun w1 c1 => (op_move (v := .int .i64 _) rfl)) ?_
        refine lm_call 61 (V := (fun (r : Int) (_u : Unit) => .int .i64 r)) (HR := (fun (_r : Int) (_u : Unit) => [])) (by kernel_rfl) (fun w1 => op_call (by kernel_rfl)) (fun r1 hr1 w1 c1 => m_recyclingref51_next_ok N w1 p0 s44 p2 A_p0 n_p0 c_p0 u45.1 u45.2.1 u45.2.2 (hr_p0.old c1) hz_p0 (c1.own 1 rfl encI_len) (c1.ownZ 1 rfl) r1 hr1) ?_
        intro r82 u83
        refine lm_val 13 (by kernel_rfl) (fun w1 c1 => (op_assign (v := .int .i64 _) rfl)) ?_
        refine lm_nil ?_
        refine xm_next ?_
        refine cm_seq ?_
        refine cm_region ?_
        refine lm_val 62 (by kernel_rfl) (fun w1 c1 => (op_move (v := .int .i64 _) rfl)) ?_
        refine lm_val 63 (by kernel_rfl) (fun w1 c1 => (op_geq rfl rfl)) ?_
        refine lm_nil ?_
        refine xm_next ?_
        refine cm_cond (by kernel_rfl) rfl (fun h84 => ?_) (fun h84 => ?_)
        · skip
          refine cm_region ?_
          refine lm_val 64 (by kernel_rfl) (fun w1 c1 => (op_move (v := .slice _ _ _) rfl)) ?_
          refine lm_val 65 (by kernel_rfl) (fun w1 c1 => (op_move (v := .int .i64 _) rfl)) ?_
          refine lm_ck (fun h85 => ?_)
          refine lm_val 66 (by kernel_rfl) (fun w1 c1 => (op_indexA 3 rfl rfl (by kernel_rfl) ((hr_p0.old c1).addr h85.1 h85.2) hz_p0.2.2 h85.1 h85.2)) ?_
          refine lm_val 67 (by kernel_rfl) (fun w1 c1 => (op_field (m := 1) rfl (by kernel_rfl))) ?_
          refine lm_val 68 (by kernel_rfl) (fun w1 c1 => (op_load (v := .int .i64 ((ix p0 r82).Price)) rfl (by kernel_rfl) ((hr_p0.old c1).cell (j := 1) h85.1 h85.2 rfl))) ?_
          refine lm_val 12 (by kernel_rfl) (fun w1 c1 => (op_assign (v := .int .i64 _) rfl)) ?_
          refine lm_nil ?_
          exact xm_lnext () (sub_cons (by kernel_rfl) rfl (sub_cons (by kernel_rfl) rfl (sub_cons (by kernel_rfl) rfl sub_nil))) (hsub [0, 1] (by kernel_rfl) rfl)
        · skip
          refine cm_skip ?_
          exact xm_lnext () (sub_cons (by kernel_rfl) rfl (sub_cons (by kernel_rfl) rfl (sub_cons (by kernel_rfl) rfl sub_nil))) (hsub [0, 1] (by kernel_rfl) rfl)
      intro s80 u81
      refine cm_seq ?_
      refine cm_region ?_
      refine lm_val 69 (by kernel_rfl) (fun w1 c1 => (op_move (v := .slice _ _ _) rfl)) ?_
      refine lm_val 70 (by kernel_rfl) (fun w1 c1 => (op_move (v := .int .i64 _) rfl)) ?_
      refine lm_val 71 (by kernel_rfl) (fun w1 c1 => (op_build (z := [.slice none 0 0, .int .i64 0]) (tab := [(0, 1), (1, 1)]) (cs := [.slice _ _ _, .int .i64 _]) [(0, [.slice _ _ _]), (1, [.int .i64 _])] (by kernel_rfl) (by kernel_rfl) (fillOk_cons rfl rfl rfl (fillOk_cons rfl rfl rfl fillOk_nil)) rfl)) ?_
      refine lm_storeA 0 [.slice _ _ _, .int .i64 _] [_, _] (H' := [blkE _ _ [_, _], _]) (by kernel_rfl) rfl rfl (by kernel_rfl) rfl rfl (by kernel_rfl) rfl rfl ?_
      refine lm_val 7 (by kernel_rfl) (fun w1 c1 => (op_assign (v := .int .i64 _) rfl)) ?_
      refine lm_nil ?_
      refine xm_next ?_
      refine cm_ret ?_
      exact xm_retCT rfl (by kernel_rfl) (show _ = Value.pointer (some ⟨_, 0, none⟩) from rfl) (by kernel_rfl) (fun w1 c1 => c1.cells 0 (ds := [.slice _ _ _, .int .i64 _]) rfl rfl) (by kernel_rfl) (show _ = Value.int .i64 _ from rfl) fun w1 c1 => ⟨(u45.1, u45.2.1, u45.2.2), rfl, hsub [1] (by kernel_rfl) rfl w1 c1⟩
/-- recyclingref51.Holds -/
def m_recyclingref51_Holds (N : Nat) (p0 : (List ApiBid)) (p1 : Int) (p2 : Int) (p3 : ApiOutcome) : Option (Bool) :=
  Option.bind (m_recyclingref51_Run N p0 p1 p2) fun r2 => callIf (decide (r2.2 = 0) = true) (m_recyclingref51_Same N r2.1 p3) fun r5 => some (((decide (r2.2 = 0)) && r5))
set_option maxRecDepth 20000 in
theorem m_recyclingref51_Holds_ok (N : Nat) (w0 : World) (p0 : (List ApiBid)) (p1 : Int) (p2 : Int) (p3 : ApiOutcome) (A_p0 : Option Addr) (n_p0 c_p0 : Nat) (A_p31 : Option Addr) (n_p31 c_p31 : Nat) (hr_p0 : RdE w0 3 encApiBid A_p0 p0) (hz_p0 : SW A_p0 n_p0 c_p0 (List.length p0)) (hr_p31 : RdE w0 1 encI A_p31 p3.Won) (hz_p31 : SW A_p31 n_p31 c_p31 (List.length p3.Won)) (r : Bool) (hr : m_recyclingref51_Holds N p0 p1 p2 p3 = some r) :
    Calls Try.prog 22 [.slice A_p0 n_p0 c_p0, .int .i64 p1, .int .i64 p2, .agg #[.slice A_p31 n_p31 c_p31, .int .i64 p3.Price]].toArray w0 fun x w1 => ∃ u, x = .returned ((fun (r : Bool) (_u : Unit) => .bool r) r u) ∧ Hs w0 ((fun (_r : Bool) (_u : Unit) => []) r u) w1 := by
  refine calls_cm (n := 25) (R := fun r x w1 => ∃ u, x = .returned ((fun (r : Bool) (_u : Unit) => .bool r) r u) ∧ Hs w0 ((fun (_r : Bool) (_u : Unit) => []) r u) w1) Try.func22 rfl rfl (Nat.le_of_ble_eq_true rfl) ?_ r hr
  unfold m_recyclingref51_Holds
  refine cm_seq ?_
  refine cm_region ?_
  refine lm_box 7 [.slice _ _ _, .int .i64 _] (by kernel_rfl) rfl ?_
  intro b1
  refine lm_val 8 (by kernel_rfl) (fun w1 c1 => (op_assign (v := .bool false) rfl)) ?_
  refine lm_nil ?_
  refine xm_next ?_
  refine cm_seq ?_
  refine cm_region ?_
  refine lm_val 12 (by kernel_rfl) (fun w1 c1 => (op_move (v := .slice _ _ _) rfl)) ?_
  refine lm_val 13 (by kernel_rfl) (fun w1 c1 => (op_move (v := .int .i64 _) rfl)) ?_
  refine lm_val 14 (by kernel_rfl) (fun w1 c1 => (op_move (v := .int .i64 _) rfl)) ?_
  refine lm_call 15 (V := (fun (r : ApiOutcome × Int) (u : (Option Addr) × Nat × Nat) => .tuple #[.agg #[.slice u.1 u.2.1 u.2.2, .int .i64 r.1.Price], .int .i64 r.2])) (HR := (fun (r : ApiOutcome × Int) (u : (Option Addr) × Nat × Nat) => [ownE 3 1 encI u.1 u.2.1 u.2.2 r.1.Won])) (by kernel_rfl) (fun w1 => op_call (by kernel_rfl)) (fun r1 hr1 w1 c1 => m_recyclingref51_Run_ok N w1 p0 p1 p2 A_p0 n_p0 c_p0 (hr_p0.old c1) hz_p0 r1 hr1) ?_
  intro r2 u3
  refine lm_val 11 (by kernel_rfl) (fun w1 c1 => (op_move (v := .tuple _) rfl)) ?_
  refine lm_val 16 (by kernel_rfl) (fun w1 c1 => (op_extract (v := .agg _) rfl rfl)) ?_
  refine lm_val 17 (by kernel_rfl) (fun w1 c1 => (op_extract (v := .int .i64 _) rfl rfl)) ?_
  refine lm_alloc 9 [.slice none 0 0, .int .i64 0] (v := .agg #[.slice none 0 0, .int .i64 0]) (by kernel_rfl) (by kernel_rfl) rfl ?_
  intro b4
  refine lm_storeA 0 [.slice _ _ _, .int .i64 _] [_, _] (H' := [blkE _ _ [_, _], _, _]) (by kernel_rfl) rfl rfl (by kernel_rfl) rfl rfl (by kernel_rfl) rfl rfl ?_
  refine lm_val 10 (by kernel_rfl) (fun w1 c1 => (op_assign (v := .int .i64 _) rfl)) ?_
  refine lm_nil ?_
  refine xm_next ?_
  refine cm_seq ?_
  refine cm_callIf fun r5 h6 => ?_
  refine cm_cutE [(8, .bool ((decide (r2.2 = 0)) && r5))] ?_ ?_
  · skip
    refine wq_val 18 (by kernel_rfl) (fun w1 c1 => (op_move (v := .int .i64 _) rfl)) ?_
    refine wq_dec 19 (by kernel_rfl) (fun w1 c1 => (op_eql rfl rfl)) (fun h7 => ?_) (fun h7 => ?_)
    · skip
      refine wq_val 20 (by kernel_rfl) (fun w1 c1 => (op_move (v := .bool true) rfl)) ?_
      refine wq_val 21 (by kernel_rfl) (fun w1 c1 => (op_loadR [.slice _ _ _, .int .i64 _] rfl (by kernel_rfl) (c1.cells 0 rfl rfl))) ?_
      refine wq_val 22 (by kernel_rfl) (fun w1 c1 => (op_loadR [.slice _ _ _, .int .i64 _] rfl (by kernel_rfl) (c1.cells 2 rfl rfl))) ?_
      refine wq_call 23 (by kernel_rfl) (fun w1 c1 => op_call (by kernel_rfl)) (fun w1 c1 => (m_recyclingref51_Same_ok N w1 r2.1 p3 u3.1 u3.2.1 u3.2.2 A_p31 n_p31 c_p31 (c1.own 1 rfl encI_len) (c1.ownZ 1 rfl) (hr_p31.old c1) hz_p31 r5 (h6 (by rw [decide_eq_true h7] <;> rfl))).mono (fun _ _ ⟨_, hx, hu⟩ => ⟨hx, c1.call hu⟩)) ?_
      refine wq_val 24 (by kernel_rfl) (fun w1 c1 => (op_pick_t (v := .bool _) rfl rfl)) ?_
      refine wq_val 8 (by kernel_rfl) (fun w1 c1 => (op_assign (v := .bool _) rfl)) ?_
      exact leaf_q (sub_out 8 _ rfl (by kernel_rfl) ⟨(congrArg Value.bool (by rw [decide_eq_true h7] <;> rfl)), trivial⟩)
    · skip
      refine wq_val 20 (by kernel_rfl) (fun w1 c1 => (op_move (v := .bool false) rfl)) ?_
      refine wq_skip 21 (by kernel_rfl) ?_
      refine wq_skip 22 (by kernel_rfl) ?_
      refine wq_skip 23 (by kernel_rfl) ?_
      refine wq_val 24 (by kernel_rfl) (fun w1 c1 => (op_pick_f (v := .bool false) rfl rfl)) ?_
      refine wq_val 8 (by kernel_rfl) (fun w1 c1 => (op_assign (v := .bool false) rfl)) ?_
      exact leaf_q (sub_out 8 _ rfl (by kernel_rfl) ⟨(congrArg Value.bool (by rw [decide_eq_false h7] <;> rfl)), trivial⟩)
  refine xm_next ?_
  refine cm_ret ?_
  exact xm_retT rfl (by kernel_rfl) (show _ = Value.bool _ from rfl) fun w1 c1 => ⟨(), rfl, hsub [] (by kernel_rfl) rfl w1 c1⟩
/-- auction.Check$1 -/
def m_auction_Check_1 (_N : Nat) (p0 : ApiBid) (q0 : ApiBid) : Option (Bool) :=
  some ((decide (p0.Bidder = q0.Bidder)))
set_option maxRecDepth 20000 in
theorem m_auction_Check_1_ok (N : Nat) (w0 : World) (p0 : ApiBid) (q0 : ApiBid) (b_q0 : Nat) (hb_q0 : Blk w0 b_q0 44 [.int .i64 q0.Bidder, .int .i64 q0.Price, .int .i64 q0.Count]) (r : Bool) (hr : m_auction_Check_1 N p0 q0 = some r) :
    Calls Try.prog 24 [.agg #[.int .i64 p0.Bidder, .int .i64 p0.Price, .int .i64 p0.Count], .pointer (some ⟨b_q0, 0, none⟩)].toArray w0 fun x w1 => ∃ u, x = .returned ((fun (r : Bool) (_u : Unit) => .bool r) r u) ∧ Hs w0 ((fun (_r : Bool) (_u : Unit) => []) r u) w1 := by
  refine calls_cm (n := 9) (R := fun r x w1 => ∃ u, x = .returned ((fun (r : Bool) (_u : Unit) => .bool r) r u) ∧ Hs w0 ((fun (_r : Bool) (_u : Unit) => []) r u) w1) Try.func24 rfl rfl (Nat.le_of_ble_eq_true rfl) ?_ r hr
  unfold m_auction_Check_1
  refine cm_seq ?_
  refine cm_region ?_
  refine lm_box 2 [.int .i64 _, .int .i64 _, .int .i64 _] (by kernel_rfl) rfl ?_
  intro b1
  refine lm_val 3 (by kernel_rfl) (fun w1 c1 => (op_assign (v := .bool false) rfl)) ?_
  refine lm_nil ?_
  refine xm_next ?_
  refine cm_seq ?_
  refine cm_region ?_
  refine lm_val 4 (by kernel_rfl) (fun w1 c1 => (op_fieldL (m := 0) (k := 0) rfl (by kernel_rfl) rfl)) ?_
  refine lm_val 5 (by kernel_rfl) (fun w1 c1 => (op_load rfl (by kernel_rfl) (c1.cell 0 (u := .int .i64 _) rfl rfl))) ?_
  refine lm_val 6 (by kernel_rfl) (fun w1 c1 => (op_fieldL (m := 0) (k := 0) rfl (by kernel_rfl) rfl)) ?_
  refine lm_val 7 (by kernel_rfl) (fun w1 c1 => (op_load rfl (by kernel_rfl) (c1.ocell (hb_q0.at_ 0 (u := .int .i64 _) rfl)))) ?_
  refine lm_val 8 (by kernel_rfl) (fun w1 c1 => (op_eql rfl rfl)) ?_
  refine lm_val 3 (by kernel_rfl) (fun w1 c1 => (op_assign (v := .bool _) rfl)) ?_
  refine lm_nil ?_
  refine xm_next ?_
  refine cm_ret ?_
  exact xm_retT rfl (by kernel_rfl) (show _ = Value.bool _ from rfl) fun w1 c1 => ⟨(), rfl, hsub [] (by kernel_rfl) rfl w1 c1⟩
/-- slices.IndexFunc -/
def m_slices_IndexFunc_auction_Check_1 (N : Nat) (p0 : (List ApiBid)) (p1c0 : ApiBid) : Option (Int) :=
  (andThen
    (loopM (fun (s43 : Int) =>
      (if s43 < (List.length p0 : Int) then
        ck ((0 : Int) ≤ s43 ∧ s43 < (List.length p0 : Int)) (
          Option.bind (m_auction_Check_1 N (ix p0 s43) p1c0) fun r47 => (if r47 = true then
            some (.done (.done (s43)))
          else
            ck (I64 (s43 + (1 : Int))) (
              some (.next (s43 + (1 : Int))))))
      else
        some (.done (.next ())))) N (0 : Int))
  fun (_s25 : Unit) =>
    some ((-1 : Int)))
set_option maxRecDepth 20000 in
theorem m_slices_IndexFunc_auction_Check_1_ok (N : Nat) (w0 : World) (p0 : (List ApiBid)) (p1c0 : ApiBid) (A_p0 : Option Addr) (n_p0 c_p0 : Nat) (b_p1c0 : Nat) (hr_p0 : RdE w0 3 encApiBid A_p0 p0) (hz_p0 : SW A_p0 n_p0 c_p0 (List.length p0)) (hb_p1c0 : Blk w0 b_p1c0 44 [.int .i64 p1c0.Bidder, .int .i64 p1c0.Price, .int .i64 p1c0.Count]) (r : Int) (hr : m_slices_IndexFunc_auction_Check_1 N p0 p1c0 = some r) :
    Calls Try.prog 30 [.slice A_p0 n_p0 c_p0, .func (.func 24) #[] #[.pointer (some ⟨b_p1c0, 0, none⟩)]].toArray w0 fun x w1 => ∃ u, x = .returned ((fun (r : Int) (_u : Unit) => .int .i64 r) r u) ∧ Hs w0 ((fun (_r : Int) (_u : Unit) => []) r u) w1 := by
  refine calls_cm (n := 19) (R := fun r x w1 => ∃ u, x = .returned ((fun (r : Int) (_u : Unit) => .int .i64 r) r u) ∧ Hs w0 ((fun (_r : Int) (_u : Unit) => []) r u) w1) Try.func30 rfl rfl (Nat.le_of_ble_eq_true rfl) ?_ r hr
  unfold m_slices_IndexFunc_auction_Check_1
  refine cm_seq ?_
  refine cm_region ?_
  refine lm_val 4 (by kernel_rfl) (fun w1 c1 => (op_assign (v := .int .i64 _) rfl)) ?_
  refine lm_nil ?_
  refine xm_next ?_
  refine cm_join (σ := Unit) (ξ := Unit) (fun s25 u26 => []) (fun s25 u26 => []) ?_ ?_
  · skip
    refine cm_seq ?_
    refine cm_region ?_
    refine lm_val 6 (by kernel_rfl) (fun w1 c1 => (op_move (v := .slice _ _ _) rfl)) ?_
    refine lm_val 7 (by kernel_rfl) (fun w1 c1 => (op_lenN rfl (by kernel_rfl) hz_p0.2.2)) ?_
    refine lm_val 8 (by kernel_rfl) (fun w1 c1 => (op_move (v := .int .i64 _) rfl)) ?_
    refine lm_nil ?_
    refine xm_next ?_
    refine cm_block ?_
    refine cm_loop (σ := Int) (ξ := Unit) (fun s43 u44 => [(0, .slice A_p0 n_p0 c_p0), (1, .func (.func 24) #[] #[.pointer (some ⟨b_p1c0, 0, none⟩)]), (7, .int .i64 (List.length p0 : Int)), (8, .int .i64 s43)]) (fun s43 u44 => []) () ?_ ?_ ?_
    · exact (sub_cons (by kernel_rfl) rfl (sub_cons (by kernel_rfl) rfl (sub_cons (by kernel_rfl) rfl (sub_cons (by kernel_rfl) rfl sub_nil))))
    · exact hsub [] (by kernel_rfl) rfl
    intro s43 u44
    refine cm_seq ?_
    refine cm_region ?_
    refine lm_val 9 (by kernel_rfl) (fun w1 c1 => (op_lss rfl rfl)) ?_
    refine lm_nil ?_
    refine xm_next ?_
    refine cm_seq ?_
    refine cm_cond (by kernel_rfl) rfl (fun h45 => ?_) (fun h45 => ?_)
    · skip
      refine cm_skip ?_
      refine xm_next ?_
      refine cm_seq ?_
      refine cm_block ?_
      refine cm_seq ?_
      refine cm_region ?_
      refine lm_val 10 (by kernel_rfl) (fun w1 c1 => (op_move (v := .int .i64 _) rfl)) ?_
      refine lm_val 5 (by kernel_rfl) (fun w1 c1 => (op_assign (v := .int .i64 _) rfl)) ?_
      refine lm_nil ?_
      refine xm_next ?_
      refine cm_seq ?_
      refine cm_region ?_
      refine lm_val 11 (by kernel_rfl) (fun w1 c1 => (op_move (v := .func _ _ _) rfl)) ?_
      refine lm_val 12 (by kernel_rfl) (fun w1 c1 => (op_move (v := .slice _ _ _) rfl)) ?_
      refine lm_val 13 (by kernel_rfl) (fun w1 c1 => (op_move (v := .int .i64 _) rfl)) ?_
      refine lm_ck (fun h46 => ?_)
      refine lm_val 14 (by kernel_rfl) (fun w1 c1 => (op_indexA 3 rfl rfl (by kernel_rfl) ((hr_p0.old c1).addr h46.1 h46.2) hz_p0.2.2 h46.1 h46.2)) ?_
      refine lm_val 15 (by kernel_rfl) (fun w1 c1 => (op_loadR [.int .i64 ((ix p0 s43).Bidder), .int .i64 ((ix p0 s43).Price), .int .i64 ((ix p0 s43).Count)] rfl (by kernel_rfl) ((hr_p0.old c1).row h46.1 h46.2))) ?_
      refine lm_call 16 (V := (fun (r : Bool) (_u : Unit) => .bool r)) (HR := (fun (_r : Bool) (_u : Unit) => [])) (by kernel_rfl) (fun w1 => op_callv rfl (by kernel_rfl)) (fun r1 hr1 w1 c1 => m_auction_Check_1_ok N w1 (ix p0 s43) p1c0 b_p1c0 (c1.oblk hb_p1c0) r1 hr1) ?_
      intro r47 u48
      refine lm_nil ?_
      refine xm_next ?_
      refine cm_condB (by kernel_rfl) rfl (fun h49 => ?_) (fun h49 => ?_)
      · skip
        refine cm_seq ?_
        refine cm_region ?_
        refine lm_val 17 (by kernel_rfl) (fun w1 c1 => (op_move (v := .int .i64 _) rfl)) ?_
        refine lm_val 4 (by kernel_rfl) (fun w1 c1 => (op_assign (v := .int .i64 _) rfl)) ?_
        refine lm_nil ?_
        refine xm_next ?_
        refine cm_ret ?_
        refine xm_inR ?_
        refine xm_thenR ?_
        refine xm_lret ?_
        refine xm_inR ?_
        refine xm_lret ?_
        exact xm_retT rfl (by kernel_rfl) (show _ = Value.int .i64 _ from rfl) fun w1 c1 => ⟨(), rfl, hsub [] (by kernel_rfl) rfl w1 c1⟩
      · skip
        refine cm_skip ?_
        refine xm_inN ?_
        refine xm_next ?_
        refine cm_region ?_
        refine lm_ck (fun h50 => ?_)
        refine lm_val 18 (by kernel_rfl) (fun w1 c1 => (op_add rfl rfl h50)) ?_
        refine lm_val 8 (by kernel_rfl) (fun w1 c1 => (op_move (v := .int .i64 _) rfl)) ?_
        refine lm_nil ?_
        exact xm_lnext () (sub_cons (by kernel_rfl) rfl (sub_cons (by kernel_rfl) rfl (sub_cons (by kernel_rfl) rfl (sub_cons (by kernel_rfl) rfl sub_nil)))) (hsub [] (by kernel_rfl) rfl)
    · skip
      refine cm_exit ?_
      refine xm_thenE ?_
      refine xm_lexit ?_
      refine xm_here ?_
      exact xm_lnext () sub_nil (hsub [] (by kernel_rfl) rfl)
  intro s25 u26
  refine cm_seq ?_
  refine cm_region ?_
  refine lm_val 4 (by kernel_rfl) (fun w1 c1 => (op_assign (v := .int .i64 _) rfl)) ?_
  refine lm_nil ?_
  refine xm_next ?_
  refine cm_ret ?_
  exact xm_retT rfl (by kernel_rfl) (show _ = Value.int .i64 _ from rfl) fun w1 c1 => ⟨(), rfl, hsub [] (by kernel_rfl) rfl w1 c1⟩
/-- slices.ContainsFunc -/
def m_slices_ContainsFunc_auction_Check_1 (N : Nat) (p0 : (List ApiBid)) (p1c0 : ApiBid) : Option (Bool) :=
  Option.bind (m_slices_IndexFunc_auction_Check_1 N p0 p1c0) fun r1 => some ((decide (0 ≤ r1)))
set_option maxRecDepth 20000 in
theorem m_slices_ContainsFunc_auction_Check_1_ok (N : Nat) (w0 : World) (p0 : (List ApiBid)) (p1c0 : ApiBid) (A_p0 : Option Addr) (n_p0 c_p0 : Nat) (b_p1c0 : Nat) (hr_p0 : RdE w0 3 encApiBid A_p0 p0) (hz_p0 : SW A_p0 n_p0 c_p0 (List.length p0)) (hb_p1c0 : Blk w0 b_p1c0 44 [.int .i64 p1c0.Bidder, .int .i64 p1c0.Price, .int .i64 p1c0.Count]) (r : Bool) (hr : m_slices_ContainsFunc_auction_Check_1 N p0 p1c0 = some r) :
    Calls Try.prog 23 [.slice A_p0 n_p0 c_p0, .func (.func 24) #[] #[.pointer (some ⟨b_p1c0, 0, none⟩)]].toArray w0 fun x w1 => ∃ u, x = .returned ((fun (r : Bool) (_u : Unit) => .bool r) r u) ∧ Hs w0 ((fun (_r : Bool) (_u : Unit) => []) r u) w1 := by
  refine calls_cm (n := 9) (R := fun r x w1 => ∃ u, x = .returned ((fun (r : Bool) (_u : Unit) => .bool r) r u) ∧ Hs w0 ((fun (_r : Bool) (_u : Unit) => []) r u) w1) Try.func23 rfl rfl (Nat.le_of_ble_eq_true rfl) ?_ r hr
  unfold m_slices_ContainsFunc_auction_Check_1
  refine cm_seq ?_
  refine cm_region ?_
  refine lm_val 4 (by kernel_rfl) (fun w1 c1 => (op_assign (v := .bool false) rfl)) ?_
  refine lm_nil ?_
  refine xm_next ?_
  refine cm_seq ?_
  refine cm_region ?_
  refine lm_val 5 (by kernel_rfl) (fun w1 c1 => (op_move (v := .slice _ _ _) rfl)) ?_
  refine lm_val 6 (by kernel_rfl) (fun w1 c1 => (op_move (v := .func _ _ _) rfl)) ?_
  refine lm_call 7 (V := (fun (r : Int) (_u : Unit) => .int .i64 r)) (HR := (fun (_r : Int) (_u : Unit) => [])) (by kernel_rfl) (fun w1 => op_call (by kernel_rfl)) (fun r1 hr1 w1 c1 => m_slices_IndexFunc_auction_Check_1_ok N w1 p0 p1c0 A_p0 n_p0 c_p0 b_p1c0 (hr_p0.old c1) hz_p0 (c1.oblk hb_p1c0) r1 hr1) ?_
  intro r1 u2
  refine lm_val 8 (by kernel_rfl) (fun w1 c1 => (op_geq rfl rfl)) ?_
  refine lm_val 4 (by kernel_rfl) (fun w1 c1 => (op_assign (v := .bool _) rfl)) ?_
  refine lm_nil ?_
  refine xm_next ?_
  refine cm_ret ?_
  exact xm_retT rfl (by kernel_rfl) (show _ = Value.bool _ from rfl) fun w1 c1 => ⟨(), rfl, hsub [] (by kernel_rfl) rfl w1 c1⟩
/-- auction.Check -/
def m_auction_Check (N : Nat) (p0 : (List ApiBid)) : Option (Int) :=
  (if 64 < (List.length p0 : Int) then
    some ((8 : Int))
  else
    (andThen
      (loopM (fun (s64 : Int) =>
        (if s64 < (List.length p0 : Int) then
          ck ((0 : Int) ≤ s64 ∧ s64 < (List.length p0 : Int)) (
            (if ((decide ((ix p0 s64).Bidder < 0)) || (decide (1000000 < (ix p0 s64).Bidder))) = true then
              some (.done (.done ((1 : Int))))
            else
              (if ((((decide ((ix p0 s64).Price < 0)) || (decide (1000000 < (ix p0 s64).Price))) || (decide ((ix p0 s64).Count < 1))) || (decide (100 < (ix p0 s64).Count))) = true then
                some (.done (.done ((33 : Int))))
              else
                ck (I64 (s64 + (1 : Int))) (
                  some (.next (s64 + (1 : Int)))))))
        else
          some (.done (.next ())))) N (0 : Int))
    fun (_s38 : Unit) =>
      (andThen
        (loopM (fun (s128 : Int) =>
          (if s128 < (List.length p0 : Int) then
            ck ((0 : Int) ≤ s128 ∧ s128 < (List.length p0 : Int)) (
              ck ((0 : Int) ≤ s128 ∧ s128 ≤ (List.length p0 : Int)) (
                Option.bind (m_slices_ContainsFunc_auction_Check_1 N (List.take (Int.toNat s128) p0) (ix p0 s128)) fun r134 => (if r134 = true then
                  some (.done (.done ((6 : Int))))
                else
                  ck (I64 (s128 + (1 : Int))) (
                    some (.next (s128 + (1 : Int)))))))
          else
            some (.done (.next ())))) N (0 : Int))
      fun (_s106 : Unit) =>
        some ((0 : Int)))))
set_option maxRecDepth 20000 in
theorem m_auction_Check_ok (N : Nat) (w0 : World) (p0 : (List ApiBid)) (A_p0 : Option Addr) (n_p0 c_p0 : Nat) (hr_p0 : RdE w0 3 encApiBid A_p0 p0) (hz_p0 : SW A_p0 n_p0 c_p0 (List.length p0)) (r : Int) (hr : m_auction_Check N p0 = some r) :
    Calls Try.prog 12 [.slice A_p0 n_p0 c_p0].toArray w0 fun x w1 => ∃ u, x = .returned ((fun (r : Int) (_u : Unit) => .int .i64 r) r u) ∧ Hs w0 ((fun (_r : Int) (_u : Unit) => []) r u) w1 := by
  refine calls_cm (n := 56) (R := fun r x w1 => ∃ u, x = .returned ((fun (r : Int) (_u : Unit) => .int .i64 r) r u) ∧ Hs w0 ((fun (_r : Int) (_u : Unit) => []) r u) w1) Try.func12 rfl rfl (Nat.le_of_ble_eq_true rfl) ?_ r hr
  unfold m_auction_Check
  refine cm_seq ?_
  refine cm_region ?_
  refine lm_val 2 (by kernel_rfl) (fun w1 c1 => (op_assign (v := .int .i64 _) rfl)) ?_
  refine lm_nil ?_
  refine xm_next ?_
  refine cm_seq ?_
  refine cm_seq ?_
  refine cm_region ?_
  refine lm_val 7 (by kernel_rfl) (fun w1 c1 => (op_move (v := .slice _ _ _) rfl)) ?_
  refine lm_val 8 (by kernel_rfl) (fun w1 c1 => (op_lenN rfl (by kernel_rfl) hz_p0.2.2)) ?_
  refine lm_val 9 (by kernel_rfl) (fun w1 c1 => (op_gtr rfl rfl)) ?_
  refine lm_nil ?_
  refine xm_next ?_
  refine cm_cond (by kernel_rfl) rfl (fun h1 => ?_) (fun h1 => ?_)
  · skip
    refine cm_seq ?_
    refine cm_region ?_
    refine lm_val 2 (by kernel_rfl) (fun w1 c1 => (op_assign (v := .int .i64 _) rfl)) ?_
    refine lm_nil ?_
    refine xm_next ?_
    refine cm_ret ?_
    refine xm_thenR ?_
    exact xm_retT rfl (by kernel_rfl) (show _ = Value.int .i64 _ from rfl) fun w1 c1 => ⟨(), rfl, hsub [] (by kernel_rfl) rfl w1 c1⟩
  · skip
    refine cm_skip ?_
    refine xm_next ?_
    refine cm_join (σ := Unit) (ξ := Unit) (fun s38 u39 => [(0, .slice A_p0 n_p0 c_p0)]) (fun s38 u39 => []) ?_ ?_
    · skip
      refine cm_seq ?_
      refine cm_region ?_
      refine lm_val 10 (by kernel_rfl) (fun w1 c1 => (op_move (v := .slice _ _ _) rfl)) ?_
      refine lm_val 11 (by kernel_rfl) (fun w1 c1 => (op_lenN rfl (by kernel_rfl) hz_p0.2.2)) ?_
      refine lm_val 12 (by kernel_rfl) (fun w1 c1 => (op_move (v := .int .i64 _) rfl)) ?_
      refine lm_nil ?_
      refine xm_next ?_
      refine cm_block ?_
      refine cm_loop (σ := Int) (ξ := Unit) (fun s64 u65 => [(0, .slice A_p0 n_p0 c_p0), (10, .slice A_p0 n_p0 c_p0), (11, .int .i64 (List.length p0 : Int)), (12, .int .i64 s64)]) (fun s64 u65 => []) () ?_ ?_ ?_
      · exact (sub_cons (by kernel_rfl) rfl (sub_cons (by kernel_rfl) rfl (sub_cons (by kernel_rfl) rfl (sub_cons (by kernel_rfl) rfl sub_nil))))
      · exact hsub [] (by kernel_rfl) rfl
      intro s64 u65
      refine cm_seq ?_
      refine cm_region ?_
      refine lm_val 13 (by kernel_rfl) (fun w1 c1 => (op_lss rfl rfl)) ?_
      refine lm_nil ?_
      refine xm_next ?_
      refine cm_seq ?_
      refine cm_cond (by kernel_rfl) rfl (fun h66 => ?_) (fun h66 => ?_)
      · skip
        refine cm_skip ?_
        refine xm_next ?_
        refine cm_seq ?_
        refine cm_block ?_
        refine cm_seq ?_
        refine cm_region ?_
        refine lm_ck (fun h67 => ?_)
        refine lm_val 14 (by kernel_rfl) (fun w1 c1 => (op_indexA 3 rfl rfl (by kernel_rfl) ((hr_p0.old c1).addr h67.1 h67.2) hz_p0.2.2 h67.1 h67.2)) ?_
        refine lm_val 15 (by kernel_rfl) (fun w1 c1 => (op_loadR [.int .i64 ((ix p0 s64).Bidder), .int .i64 ((ix p0 s64).Price), .int .i64 ((ix p0 s64).Count)] rfl (by kernel_rfl) ((hr_p0.old c1).row h67.1 h67.2))) ?_
        refine lm_alloc 4 [.int .i64 0, .int .i64 0, .int .i64 0] (v := .agg #[.int .i64 0, .int .i64 0, .int .i64 0]) (by kernel_rfl) (by kernel_rfl) rfl ?_
        intro b68
        refine lm_storeA 0 [.int .i64 _, .int .i64 _, .int .i64 _] [_, _, _] (H' := [blkE _ _ [_, _, _]]) (by kernel_rfl) rfl rfl (by kernel_rfl) rfl rfl (by kernel_rfl) rfl rfl ?_
        refine lm_nil ?_
        refine xm_next ?_
        refine cm_seq ?_
        refine cm_seq ?_
        refine cm_cutE [(23, .bool ((decide ((ix p0 s64).Bidder < 0)) || (decide (1000000 < (ix p0 s64).Bidder))))] ?_ ?_
        · skip
          refine wq_val 16 (by kernel_rfl) (fun w1 c1 => (op_fieldL (m := 0) (k := 0) rfl (by kernel_rfl) rfl)) ?_
          refine wq_val 17 (by kernel_rfl) (fun w1 c1 => (op_load rfl (by kernel_rfl) (c1.cell 0 (u := .int .i64 _) rfl rfl))) ?_
          refine wq_dec 18 (by kernel_rfl) (fun w1 c1 => (op_lss rfl rfl)) (fun h69 => ?_) (fun h69 => ?_)
          · skip
            refine wq_val 19 (by kernel_rfl) (fun w1 c1 => (op_move (v := .bool true) rfl)) ?_
            refine wq_skip 20 (by kernel_rfl) ?_
            refine wq_skip 21 (by kernel_rfl) ?_
            refine wq_skip 22 (by kernel_rfl) ?_
            refine wq_val 23 (by kernel_rfl) (fun w1 c1 => (op_pick_t (v := .bool true) rfl rfl)) ?_
            exact leaf_q (sub_out 8 _ rfl (by kernel_rfl) ⟨(congrArg Value.bool (by rw [decide_eq_true h69] <;> rfl)), trivial⟩)
          · skip
            refine wq_val 19 (by kernel_rfl) (fun w1 c1 => (op_move (v := .bool false) rfl)) ?_
            refine wq_val 20 (by kernel_rfl) (fun w1 c1 => (op_fieldL (m := 0) (k := 0) rfl (by kernel_rfl) rfl)) ?_
            refine wq_val 21 (by kernel_rfl) (fun w1 c1 => (op_load rfl (by kernel_rfl) (c1.cell 0 (u := .int .i64 _) rfl rfl))) ?_
            refine wq_val 22 (by kernel_rfl) (fun w1 c1 => (op_gtr rfl rfl)) ?_
            refine wq_val 23 (by kernel_rfl) (fun w1 c1 => (op_pick_f (v := .bool _) rfl rfl)) ?_
            exact leaf_q (sub_out 8 _ rfl (by kernel_rfl) ⟨(congrArg Value.bool (by rw [decide_eq_false h69] <;> rfl)), trivial⟩)
        refine xm_next ?_
        refine cm_condB (by kernel_rfl) rfl (fun h70 => ?_) (fun h70 => ?_)
        · skip
          refine cm_seq ?_
          refine cm_region ?_
          refine lm_val 2 (by kernel_rfl) (fun w1 c1 => (op_assign (v := .int .i64 _) rfl)) ?_
          refine lm_nil ?_
          refine xm_next ?_
          refine cm_ret ?_
          refine xm_thenR ?_
          refine xm_inR ?_
          refine xm_thenR ?_
          refine xm_lret ?_
          refine xm_inR ?_
          refine xm_lret ?_
          exact xm_retT rfl (by kernel_rfl) (show _ = Value.int .i64 _ from rfl) fun w1 c1 => ⟨(), rfl, hsub [] (by kernel_rfl) rfl w1 c1⟩
        · skip
          refine cm_skip ?_
          refine xm_next ?_
          refine cm_seq ?_
          refine cm_cutE [(41, .bool ((((decide ((ix p0 s64).Price < 0)) || (decide (1000000 < (ix p0 s64).Price))) || (decide ((ix p0 s64).Count < 1))) || (decide (100 < (ix p0 s64).Count))))] ?_ ?_
          · skip
            refine wq_val 24 (by kernel_rfl) (fun w1 c1 => (op_fieldL (m := 1) (k := 1) rfl (by kernel_rfl) rfl)) ?_
            refine wq_val 25 (by kernel_rfl) (fun w1 c1 => (op_load rfl (by kernel_rfl) (c1.cell 0 (u := .int .i64 _) rfl rfl))) ?_
            refine wq_dec 26 (by kernel_rfl) (fun w1 c1 => (op_lss rfl rfl)) (fun h71 => ?_) (fun h71 => ?_)
            · skip
              refine wq_val 27 (by kernel_rfl) (fun w1 c1 => (op_move (v := .bool true) rfl)) ?_
              refine wq_skip 28 (by kernel_rfl) ?_
              refine wq_skip 29 (by kernel_rfl) ?_
              refine wq_skip 30 (by kernel_rfl) ?_
              refine wq_val 31 (by kernel_rfl) (fun w1 c1 => (op_pick_t (v := .bool true) rfl rfl)) ?_
              refine wq_val 32 (by kernel_rfl) (fun w1 c1 => (op_move (v := .bool true) rfl)) ?_
              refine wq_skip 33 (by kernel_rfl) ?_
              refine wq_skip 34 (by kernel_rfl) ?_
              refine wq_skip 35 (by kernel_rfl) ?_
              refine wq_val 36 (by kernel_rfl) (fun w1 c1 => (op_pick_t (v := .bool true) rfl rfl)) ?_
              refine wq_val 37 (by kernel_rfl) (fun w1 c1 => (op_move (v := .bool true) rfl)) ?_
              refine wq_skip 38 (by kernel_rfl) ?_
              refine wq_skip 39 (by kernel_rfl) ?_
              refine wq_skip 40 (by kernel_rfl) ?_
              refine wq_val 41 (by kernel_rfl) (fun w1 c1 => (op_pick_t (v := .bool true) rfl rfl)) ?_
              exact leaf_q (sub_out 18 _ rfl (by kernel_rfl) ⟨(congrArg Value.bool (by rw [decide_eq_true h71] <;> rfl)), trivial⟩)
            · skip
              refine wq_val 27 (by kernel_rfl) (fun w1 c1 => (op_move (v := .bool false) rfl)) ?_
              refine wq_val 28 (by kernel_rfl) (fun w1 c1 => (op_fieldL (m := 1) (k := 1) rfl (by kernel_rfl) rfl)) ?_
              refine wq_val 29 (by kernel_rfl) (fun w1 c1 => (op_load rfl (by kernel_rfl) (c1.cell 0 (u := .int .i64 _) rfl rfl))) ?_
              refine wq_dec 30 (by kernel_rfl) (fun w1 c1 => (op_gtr rfl rfl)) (fun h72 => ?_) (fun h72 => ?_)
              · skip
                refine wq_val 31 (by kernel_rfl) (fun w1 c1 => (op_pick_f (v := .bool true) rfl rfl)) ?_
                refine wq_val 32 (by kernel_rfl) (fun w1 c1 => (op_move (v := .bool true) rfl)) ?_
                refine wq_skip 33 (by kernel_rfl) ?_
                refine wq_skip 34 (by kernel_rfl) ?_
                refine wq_skip 35 (by kernel_rfl) ?_
                refine wq_val 36 (by kernel_rfl) (fun w1 c1 => (op_pick_t (v := .bool true) rfl rfl)) ?_
                refine wq_val 37 (by kernel_rfl) (fun w1 c1 => (op_move (v := .bool true) rfl)) ?_
                refine wq_skip 38 (by kernel_rfl) ?_
                refine wq_skip 39 (by kernel_rfl) ?_
                refine wq_skip 40 (by kernel_rfl) ?_
                refine wq_val 41 (by kernel_rfl) (fun w1 c1 => (op_pick_t (v := .bool true) rfl rfl)) ?_
                exact leaf_q (sub_out 18 _ rfl (by kernel_rfl) ⟨(congrArg Value.bool (by rw [decide_eq_false h71, decide_eq_true h72] <;> rfl)), trivial⟩)
              · skip
                refine wq_val 31 (by kernel_rfl) (fun w1 c1 => (op_pick_f (v := .bool false) rfl rfl)) ?_
                refine wq_val 32 (by kernel_rfl) (fun w1 c1 => (op_move (v := .bool false) rfl)) ?_
                refine wq_val 33 (by kernel_rfl) (fun w1 c1 => (op_fieldL (m := 2) (k := 2) rfl (by kernel_rfl) rfl)) ?_
                refine wq_val 34 (by kernel_rfl) (fun w1 c1 => (op_load rfl (by kernel_rfl) (c1.cell 0 (u := .int .i64 _) rfl rfl))) ?_
                refine wq_dec 35 (by kernel_rfl) (fun w1 c1 => (op_lss rfl rfl)) (fun h73 => ?_) (fun h73 => ?_)
                · skip
                  refine wq_val 36 (by kernel_rfl) (fun w1 c1 => (op_pick_f (v := .bool true) rfl rfl)) ?_
                  refine wq_val 37 (by kernel_rfl) (fun w1 c1 => (op_move (v := .bool true) rfl)) ?_
                  refine wq_skip 38 (by kernel_rfl) ?_
                  refine wq_skip 39 (by kernel_rfl) ?_
                  refine wq_skip 40 (by kernel_rfl) ?_
                  refine wq_val 41 (by kernel_rfl) (fun w1 c1 => (op_pick_t (v := .bool true) rfl rfl)) ?_
                  exact leaf_q (sub_out 18 _ rfl (by kernel_rfl) ⟨(congrArg Value.bool (by rw [decide_eq_false h71, decide_eq_false h72, decide_eq_true h73] <;> rfl)), trivial⟩)
                · skip
                  refine wq_val 36 (by kernel_rfl) (fun w1 c1 => (op_pick_f (v := .bool false) rfl rfl)) ?_
                  refine wq_val 37 (by kernel_rfl) (fun w1 c1 => (op_move (v := .bool false) rfl)) ?_
                  refine wq_val 38 (by kernel_rfl) (fun w1 c1 => (op_fieldL (m := 2) (k := 2) rfl (by kernel_rfl) rfl)) ?_
                  refine wq_val 39 (by kernel_rfl) (fun w1 c1 => (op_load rfl (by kernel_rfl) (c1.cell 0 (u := .int .i64 _) rfl rfl))) ?_
                  refine wq_val 40 (by kernel_rfl) (fun w1 c1 => (op_gtr rfl rfl)) ?_
                  refine wq_val 41 (by kernel_rfl) (fun w1 c1 => (op_pick_f (v := .bool _) rfl rfl)) ?_
                  exact leaf_q (sub_out 18 _ rfl (by kernel_rfl) ⟨(congrArg Value.bool (by rw [decide_eq_false h71, decide_eq_false h72, decide_eq_false h73] <;> rfl)), trivial⟩)
          refine xm_next ?_
          refine cm_condB (by kernel_rfl) rfl (fun h74 => ?_) (fun h74 => ?_)
          · skip
            refine cm_seq ?_
            refine cm_region ?_
            refine lm_val 2 (by kernel_rfl) (fun w1 c1 => (op_assign (v := .int .i64 _) rfl)) ?_
            refine lm_nil ?_
            refine xm_next ?_
            refine cm_ret ?_
            refine xm_inR ?_
            refine xm_thenR ?_
            refine xm_lret ?_
            refine xm_inR ?_
            refine xm_lret ?_
            exact xm_retT rfl (by kernel_rfl) (show _ = Value.int .i64 _ from rfl) fun w1 c1 => ⟨(), rfl, hsub [] (by kernel_rfl) rfl w1 c1⟩
          · skip
            refine cm_skip ?_
            refine xm_inN ?_
            refine xm_next ?_
            refine cm_region ?_
            refine lm_ck (fun h75 => ?_)
            refine lm_val 42 (by kernel_rfl) (fun w1 c1 => (op_add rfl rfl h75)) ?_
            refine lm_val 12 (by kernel_rfl) (fun w1 c1 => (op_move (v := .int .i64 _) rfl)) ?_
            refine lm_nil ?_
            exact xm_lnext () (sub_cons (by kernel_rfl) rfl (sub_cons (by kernel_rfl) rfl (sub_cons (by kernel_rfl) rfl (sub_cons (by kernel_rfl) rfl sub_nil)))) (hsub [] (by kernel_rfl) rfl)
      · skip
        refine cm_exit ?_
        refine xm_thenE ?_
        refine xm_lexit ?_
        refine xm_here ?_
        exact xm_lnext () (sub_cons (by kernel_rfl) rfl sub_nil) (hsub [] (by kernel_rfl) rfl)
    intro s38 u39
    refine cm_join (σ := Unit) (ξ := Unit) (fun s106 u107 => []) (fun s106 u107 => []) ?_ ?_
    · skip
      refine cm_seq ?_
      refine cm_region ?_
      refine lm_val 43 (by kernel_rfl) (fun w1 c1 => (op_move (v := .slice _ _ _) rfl)) ?_
      refine lm_val 44 (by kernel_rfl) (fun w1 c1 => (op_lenN rfl (by kernel_rfl) hz_p0.2.2)) ?_
      refine lm_val 45 (by kernel_rfl) (fun w1 c1 => (op_move (v := .int .i64 _) rfl)) ?_
      refine lm_nil ?_
      refine xm_next ?_
      refine cm_block ?_
      refine cm_loop (σ := Int) (ξ := Unit) (fun s128 u129 => [(0, .slice A_p0 n_p0 c_p0), (43, .slice A_p0 n_p0 c_p0), (44, .int .i64 (List.length p0 : Int)), (45, .int .i64 s128)]) (fun s128 u129 => []) () ?_ ?_ ?_
      · exact (sub_cons (by kernel_rfl) rfl (sub_cons (by kernel_rfl) rfl (sub_cons (by kernel_rfl) rfl (sub_cons (by kernel_rfl) rfl sub_nil))))
      · exact hsub [] (by kernel_rfl) rfl
      intro s128 u129
      refine cm_seq ?_
      refine cm_region ?_
      refine lm_val 46 (by kernel_rfl) (fun w1 c1 => (op_lss rfl rfl)) ?_
      refine lm_nil ?_
      refine xm_next ?_
      refine cm_seq ?_
      refine cm_cond (by kernel_rfl) rfl (fun h130 => ?_) (fun h130 => ?_)
      · skip
        refine cm_skip ?_
        refine xm_next ?_
        refine cm_seq ?_
        refine cm_block ?_
        refine cm_seq ?_
        refine cm_region ?_
        refine lm_val 47 (by kernel_rfl) (fun w1 c1 => (op_move (v := .int .i64 _) rfl)) ?_
        refine lm_ck (fun h131 => ?_)
        refine lm_val 48 (by kernel_rfl) (fun w1 c1 => (op_indexA 3 rfl rfl (by kernel_rfl) ((hr_p0.old c1).addr h131.1 h131.2) hz_p0.2.2 h131.1 h131.2)) ?_
        refine lm_val 49 (by kernel_rfl) (fun w1 c1 => (op_loadR [.int .i64 ((ix p0 s128).Bidder), .int .i64 ((ix p0 s128).Price), .int .i64 ((ix p0 s128).Count)] rfl (by kernel_rfl) ((hr_p0.old c1).row h131.1 h131.2))) ?_
        refine lm_alloc 6 [.int .i64 0, .int .i64 0, .int .i64 0] (v := .agg #[.int .i64 0, .int .i64 0, .int .i64 0]) (by kernel_rfl) (by kernel_rfl) rfl ?_
        intro b132
        refine lm_val 5 (by kernel_rfl) (fun w1 c1 => (op_assign (v := .int .i64 _) rfl)) ?_
        refine lm_storeA 0 [.int .i64 _, .int .i64 _, .int .i64 _] [_, _, _] (H' := [blkE _ _ [_, _, _]]) (by kernel_rfl) rfl rfl (by kernel_rfl) rfl rfl (by kernel_rfl) rfl rfl ?_
        refine lm_nil ?_
        refine xm_next ?_
        refine cm_seq ?_
        refine cm_region ?_
        refine lm_val 50 (by kernel_rfl) (fun w1 c1 => (op_move (v := .slice _ _ _) rfl)) ?_
        refine lm_val 51 (by kernel_rfl) (fun w1 c1 => (op_move (v := .int .i64 _) rfl)) ?_
        refine lm_ck (fun h133 => ?_)
        refine lm_val 52 (by kernel_rfl) (fun w1 c1 => (op_sliceTo2 (l := p0) rfl rfl (by kernel_rfl) (by kernel_rfl) hz_p0 h133.1 h133.2)) ?_
        refine lm_val 53 (by kernel_rfl) (fun w1 c1 => (op_makeFuncC [.pointer (some ⟨_, _, _⟩)] rfl)) ?_
        refine lm_call 54 (V := (fun (r : Bool) (_u : Unit) => .bool r)) (HR := (fun (_r : Bool) (_u : Unit) => [])) (by kernel_rfl) (fun w1 => op_call (by kernel_rfl)) (fun r1 hr1 w1 c1 => m_slices_ContainsFunc_auction_Check_1_ok N w1 (List.take (Int.toNat s128) p0) (ix p0 s128) A_p0 (Int.toNat s128) c_p0 b132 ((hr_p0.old c1).take h133.1 h133.2) (hz_p0.take h133.1 h133.2) (c1.blk 0 rfl) r1 hr1) ?_
        intro r134 u135
        refine lm_nil ?_
        refine xm_next ?_
        refine cm_condB (by kernel_rfl) rfl (fun h136 => ?_) (fun h136 => ?_)
        · skip
          refine cm_seq ?_
          refine cm_region ?_
          refine lm_val 2 (by kernel_rfl) (fun w1 c1 => (op_assign (v := .int .i64 _) rfl)) ?_
          refine lm_nil ?_
          refine xm_next ?_
          refine cm_ret ?_
          refine xm_inR ?_
          refine xm_thenR ?_
          refine xm_lret ?_
          refine xm_inR ?_
          refine xm_lret ?_
          exact xm_retT rfl (by kernel_rfl) (show _ = Value.int .i64 _ from rfl) fun w1 c1 => ⟨(), rfl, hsub [] (by kernel_rfl) rfl w1 c1⟩
        · skip
          refine cm_skip ?_
          refine xm_inN ?_
          refine xm_next ?_
          refine cm_region ?_
          refine lm_ck (fun h137 => ?_)
          refine lm_val 55 (by kernel_rfl) (fun w1 c1 => (op_add rfl rfl h137)) ?_
          refine lm_val 45 (by kernel_rfl) (fun w1 c1 => (op_move (v := .int .i64 _) rfl)) ?_
          refine lm_nil ?_
          exact xm_lnext () (sub_cons (by kernel_rfl) rfl (sub_cons (by kernel_rfl) rfl (sub_cons (by kernel_rfl) rfl (sub_cons (by kernel_rfl) rfl sub_nil)))) (hsub [] (by kernel_rfl) rfl)
      · skip
        refine cm_exit ?_
        refine xm_thenE ?_
        refine xm_lexit ?_
        refine xm_here ?_
        exact xm_lnext () sub_nil (hsub [] (by kernel_rfl) rfl)
    intro s106 u107
    refine cm_seq ?_
    refine cm_region ?_
    refine lm_val 2 (by kernel_rfl) (fun w1 c1 => (op_assign (v := .int .i64 _) rfl)) ?_
    refine lm_nil ?_
    refine xm_next ?_
    refine cm_ret ?_
    exact xm_retT rfl (by kernel_rfl) (show _ = Value.int .i64 _ from rfl) fun w1 c1 => ⟨(), rfl, hsub [] (by kernel_rfl) rfl w1 c1⟩
/-- auction.check$1 -/
def m_auction_check_1 (_N : Nat) (p0 : Int) : Option (Bool) :=
  some (((decide (p0 < 0)) || (decide (100 < p0))))
set_option maxRecDepth 20000 in
theorem m_auction_check_1_ok (N : Nat) (w0 : World) (p0 : Int)   (r : Bool) (hr : m_auction_check_1 N p0 = some r) :
    Calls Try.prog 37 [.int .i64 p0].toArray w0 fun x w1 => ∃ u, x = .returned ((fun (r : Bool) (_u : Unit) => .bool r) r u) ∧ Hs w0 ((fun (_r : Bool) (_u : Unit) => []) r u) w1 := by
  refine calls_cm (n := 9) (R := fun r x w1 => ∃ u, x = .returned ((fun (r : Bool) (_u : Unit) => .bool r) r u) ∧ Hs w0 ((fun (_r : Bool) (_u : Unit) => []) r u) w1) Try.func37 rfl rfl (Nat.le_of_ble_eq_true rfl) ?_ r hr
  unfold m_auction_check_1
  refine cm_seq ?_
  refine cm_region ?_
  refine lm_val 2 (by kernel_rfl) (fun w1 c1 => (op_assign (v := .bool false) rfl)) ?_
  refine lm_nil ?_
  refine xm_next ?_
  refine cm_seq ?_
  refine cm_cutE [(2, .bool ((decide (p0 < 0)) || (decide (100 < p0))))] ?_ ?_
  · skip
    refine wq_val 3 (by kernel_rfl) (fun w1 c1 => (op_move (v := .int .i64 _) rfl)) ?_
    refine wq_dec 4 (by kernel_rfl) (fun w1 c1 => (op_lss rfl rfl)) (fun h1 => ?_) (fun h1 => ?_)
    · skip
      refine wq_val 5 (by kernel_rfl) (fun w1 c1 => (op_move (v := .bool true) rfl)) ?_
      refine wq_skip 6 (by kernel_rfl) ?_
      refine wq_skip 7 (by kernel_rfl) ?_
      refine wq_val 8 (by kernel_rfl) (fun w1 c1 => (op_pick_t (v := .bool true) rfl rfl)) ?_
      refine wq_val 2 (by kernel_rfl) (fun w1 c1 => (op_assign (v := .bool true) rfl)) ?_
      exact leaf_q (sub_out 7 _ rfl (by kernel_rfl) ⟨(congrArg Value.bool (by rw [decide_eq_true h1] <;> rfl)), trivial⟩)
    · skip
      refine wq_val 5 (by kernel_rfl) (fun w1 c1 => (op_move (v := .bool false) rfl)) ?_
      refine wq_val 6 (by kernel_rfl) (fun w1 c1 => (op_move (v := .int .i64 _) rfl)) ?_
      refine wq_val 7 (by kernel_rfl) (fun w1 c1 => (op_gtr rfl rfl)) ?_
      refine wq_val 8 (by kernel_rfl) (fun w1 c1 => (op_pick_f (v := .bool _) rfl rfl)) ?_
      refine wq_val 2 (by kernel_rfl) (fun w1 c1 => (op_assign (v := .bool _) rfl)) ?_
      exact leaf_q (sub_out 7 _ rfl (by kernel_rfl) ⟨(congrArg Value.bool (by rw [decide_eq_false h1] <;> rfl)), trivial⟩)
  refine xm_next ?_
  refine cm_ret ?_
  exact xm_retT rfl (by kernel_rfl) (show _ = Value.bool _ from rfl) fun w1 c1 => ⟨(), rfl, hsub [] (by kernel_rfl) rfl w1 c1⟩
/-- slices.IndexFunc -/
def m_slices_IndexFunc_auction_check_1 (N : Nat) (p0 : (List Int)) : Option (Int) :=
  (andThen
    (loopM (fun (s43 : Int) =>
      (if s43 < (List.length p0 : Int) then
        ck ((0 : Int) ≤ s43 ∧ s43 < (List.length p0 : Int)) (
          Option.bind (m_auction_check_1 N (ix p0 s43)) fun r47 => (if r47 = true then
            some (.done (.done (s43)))
          else
            ck (I64 (s43 + (1 : Int))) (
              some (.next (s43 + (1 : Int))))))
      else
        some (.done (.next ())))) N (0 : Int))
  fun (_s25 : Unit) =>
    some ((-1 : Int)))
set_option maxRecDepth 20000 in
theorem m_slices_IndexFunc_auction_check_1_ok (N : Nat) (w0 : World) (p0 : (List Int)) (A_p0 : Option Addr) (n_p0 c_p0 : Nat) (hr_p0 : RdE w0 1 encI A_p0 p0) (hz_p0 : SW A_p0 n_p0 c_p0 (List.length p0)) (r : Int) (hr : m_slices_IndexFunc_auction_check_1 N p0 = some r) :
    Calls Try.prog 42 [.slice A_p0 n_p0 c_p0, .func (.func 37) #[] #[]].toArray w0 fun x w1 => ∃ u, x = .returned ((fun (r : Int) (_u : Unit) => .int .i64 r) r u) ∧ Hs w0 ((fun (_r : Int) (_u : Unit) => []) r u) w1 := by
  refine calls_cm (n := 19) (R := fun r x w1 => ∃ u, x = .returned ((fun (r : Int) (_u : Unit) => .int .i64 r) r u) ∧ Hs w0 ((fun (_r : Int) (_u : Unit) => []) r u) w1) Try.func42 rfl rfl (Nat.le_of_ble_eq_true rfl) ?_ r hr
  unfold m_slices_IndexFunc_auction_check_1
  refine cm_seq ?_
  refine cm_region ?_
  refine lm_val 4 (by kernel_rfl) (fun w1 c1 => (op_assign (v := .int .i64 _) rfl)) ?_
  refine lm_nil ?_
  refine xm_next ?_
  refine cm_join (σ := Unit) (ξ := Unit) (fun s25 u26 => []) (fun s25 u26 => []) ?_ ?_
  · skip
    refine cm_seq ?_
    refine cm_region ?_
    refine lm_val 6 (by kernel_rfl) (fun w1 c1 => (op_move (v := .slice _ _ _) rfl)) ?_
    refine lm_val 7 (by kernel_rfl) (fun w1 c1 => (op_lenN rfl (by kernel_rfl) hz_p0.2.2)) ?_
    refine lm_val 8 (by kernel_rfl) (fun w1 c1 => (op_move (v := .int .i64 _) rfl)) ?_
    refine lm_nil ?_
    refine xm_next ?_
    refine cm_block ?_
    refine cm_loop (σ := Int) (ξ := Unit) (fun s43 u44 => [(0, .slice A_p0 n_p0 c_p0), (1, .func (.func 37) #[] #[]), (7, .int .i64 (List.length p0 : Int)), (8, .int .i64 s43)]) (fun s43 u44 => []) () ?_ ?_ ?_
    · exact (sub_cons (by kernel_rfl) rfl (sub_cons (by kernel_rfl) rfl (sub_cons (by kernel_rfl) rfl (sub_cons (by kernel_rfl) rfl sub_nil))))
    · exact hsub [] (by kernel_rfl) rfl
    intro s43 u44
    refine cm_seq ?_
    refine cm_region ?_
    refine lm_val 9 (by kernel_rfl) (fun w1 c1 => (op_lss rfl rfl)) ?_
    refine lm_nil ?_
    refine xm_next ?_
    refine cm_seq ?_
    refine cm_cond (by kernel_rfl) rfl (fun h45 => ?_) (fun h45 => ?_)
    · skip
      refine cm_skip ?_
      refine xm_next ?_
      refine cm_seq ?_
      refine cm_block ?_
      refine cm_seq ?_
      refine cm_region ?_
      refine lm_val 10 (by kernel_rfl) (fun w1 c1 => (op_move (v := .int .i64 _) rfl)) ?_
      refine lm_val 5 (by kernel_rfl) (fun w1 c1 => (op_assign (v := .int .i64 _) rfl)) ?_
      refine lm_nil ?_
      refine xm_next ?_
      refine cm_seq ?_
      refine cm_region ?_
      refine lm_val 11 (by kernel_rfl) (fun w1 c1 => (op_move (v := .func _ _ _) rfl)) ?_
      refine lm_val 12 (by kernel_rfl) (fun w1 c1 => (op_move (v := .slice _ _ _) rfl)) ?_
      refine lm_val 13 (by kernel_rfl) (fun w1 c1 => (op_move (v := .int .i64 _) rfl)) ?_
      refine lm_ck (fun h46 => ?_)
      refine lm_val 14 (by kernel_rfl) (fun w1 c1 => (op_indexA 1 rfl rfl (by kernel_rfl) ((hr_p0.old c1).addr h46.1 h46.2) hz_p0.2.2 h46.1 h46.2)) ?_
      refine lm_val 15 (by kernel_rfl) (fun w1 c1 => (op_load (v := .int .i64 (ix p0 s43)) rfl (by kernel_rfl) ((hr_p0.old c1).cell0 h46.1 h46.2 rfl))) ?_
      refine lm_call 16 (V := (fun (r : Bool) (_u : Unit) => .bool r)) (HR := (fun (_r : Bool) (_u : Unit) => [])) (by kernel_rfl) (fun w1 => op_callv rfl (by kernel_rfl)) (fun r1 hr1 w1 c1 => m_auction_check_1_ok N w1 (ix p0 s43)  r1 hr1) ?_
      intro r47 u48
      refine lm_nil ?_
      refine xm_next ?_
      refine cm_condB (by kernel_rfl) rfl (fun h49 => ?_) (fun h49 => ?_)
      · skip
        refine cm_seq ?_
        refine cm_region ?_
        refine lm_val 17 (by kernel_rfl) (fun w1 c1 => (op_move (v := .int .i64 _) rfl)) ?_
        refine lm_val 4 (by kernel_rfl) (fun w1 c1 => (op_assign (v := .int .i64 _) rfl)) ?_
        refine lm_nil ?_
        refine xm_next ?_
        refine cm_ret ?_
        refine xm_inR ?_
        refine xm_thenR ?_
        refine xm_lret ?_
        refine xm_inR ?_
        refine xm_lret ?_
        exact xm_retT rfl (by kernel_rfl) (show _ = Value.int .i64 _ from rfl) fun w1 c1 => ⟨(), rfl, hsub [] (by kernel_rfl) rfl w1 c1⟩
      · skip
        refine cm_skip ?_
        refine xm_inN ?_
        refine xm_next ?_
        refine cm_region ?_
        refine lm_ck (fun h50 => ?_)
        refine lm_val 18 (by kernel_rfl) (fun w1 c1 => (op_add rfl rfl h50)) ?_
        refine lm_val 8 (by kernel_rfl) (fun w1 c1 => (op_move (v := .int .i64 _) rfl)) ?_
        refine lm_nil ?_
        exact xm_lnext () (sub_cons (by kernel_rfl) rfl (sub_cons (by kernel_rfl) rfl (sub_cons (by kernel_rfl) rfl (sub_cons (by kernel_rfl) rfl sub_nil)))) (hsub [] (by kernel_rfl) rfl)
    · skip
      refine cm_exit ?_
      refine xm_thenE ?_
      refine xm_lexit ?_
      refine xm_here ?_
      exact xm_lnext () sub_nil (hsub [] (by kernel_rfl) rfl)
  intro s25 u26
  refine cm_seq ?_
  refine cm_region ?_
  refine lm_val 4 (by kernel_rfl) (fun w1 c1 => (op_assign (v := .int .i64 _) rfl)) ?_
  refine lm_nil ?_
  refine xm_next ?_
  refine cm_ret ?_
  exact xm_retT rfl (by kernel_rfl) (show _ = Value.int .i64 _ from rfl) fun w1 c1 => ⟨(), rfl, hsub [] (by kernel_rfl) rfl w1 c1⟩
/-- slices.ContainsFunc -/
def m_slices_ContainsFunc_auction_check_1 (N : Nat) (p0 : (List Int)) : Option (Bool) :=
  Option.bind (m_slices_IndexFunc_auction_check_1 N p0) fun r1 => some ((decide (0 ≤ r1)))
set_option maxRecDepth 20000 in
theorem m_slices_ContainsFunc_auction_check_1_ok (N : Nat) (w0 : World) (p0 : (List Int)) (A_p0 : Option Addr) (n_p0 c_p0 : Nat) (hr_p0 : RdE w0 1 encI A_p0 p0) (hz_p0 : SW A_p0 n_p0 c_p0 (List.length p0)) (r : Bool) (hr : m_slices_ContainsFunc_auction_check_1 N p0 = some r) :
    Calls Try.prog 36 [.slice A_p0 n_p0 c_p0, .func (.func 37) #[] #[]].toArray w0 fun x w1 => ∃ u, x = .returned ((fun (r : Bool) (_u : Unit) => .bool r) r u) ∧ Hs w0 ((fun (_r : Bool) (_u : Unit) => []) r u) w1 := by
  refine calls_cm (n := 9) (R := fun r x w1 => ∃ u, x = .returned ((fun (r : Bool) (_u : Unit) => .bool r) r u) ∧ Hs w0 ((fun (_r : Bool) (_u : Unit) => []) r u) w1) Try.func36 rfl rfl (Nat.le_of_ble_eq_true rfl) ?_ r hr
  unfold m_slices_ContainsFunc_auction_check_1
  refine cm_seq ?_
  refine cm_region ?_
  refine lm_val 4 (by kernel_rfl) (fun w1 c1 => (op_assign (v := .bool false) rfl)) ?_
  refine lm_nil ?_
  refine xm_next ?_
  refine cm_seq ?_
  refine cm_region ?_
  refine lm_val 5 (by kernel_rfl) (fun w1 c1 => (op_move (v := .slice _ _ _) rfl)) ?_
  refine lm_val 6 (by kernel_rfl) (fun w1 c1 => (op_move (v := .func _ _ _) rfl)) ?_
  refine lm_call 7 (V := (fun (r : Int) (_u : Unit) => .int .i64 r)) (HR := (fun (_r : Int) (_u : Unit) => [])) (by kernel_rfl) (fun w1 => op_call (by kernel_rfl)) (fun r1 hr1 w1 c1 => m_slices_IndexFunc_auction_check_1_ok N w1 p0 A_p0 n_p0 c_p0 (hr_p0.old c1) hz_p0 r1 hr1) ?_
  intro r1 u2
  refine lm_val 8 (by kernel_rfl) (fun w1 c1 => (op_geq rfl rfl)) ?_
  refine lm_val 4 (by kernel_rfl) (fun w1 c1 => (op_assign (v := .bool _) rfl)) ?_
  refine lm_nil ?_
  refine xm_next ?_
  refine cm_ret ?_
  exact xm_retT rfl (by kernel_rfl) (show _ = Value.bool _ from rfl) fun w1 c1 => ⟨(), rfl, hsub [] (by kernel_rfl) rfl w1 c1⟩
/-- auction.check -/
def m_auction_check (N : Nat) (p0 : ApiOutcome) : Option (Int) :=
  (if 64 < (List.length p0.Won : Int) then
    some ((8 : Int))
  else
    callIf ((!((decide (p0.Price < 0)) || (decide (1000000 < p0.Price)))) = true) (m_slices_ContainsFunc_auction_check_1 N p0.Won) fun r3 => (if (((decide (p0.Price < 0)) || (decide (1000000 < p0.Price))) || r3) = true then
      some ((1 : Int))
    else
      some ((0 : Int))))
set_option maxRecDepth 20000 in
theorem m_auction_check_ok (N : Nat) (w0 : World) (p0 : ApiOutcome) (A_p01 : Option Addr) (n_p01 c_p01 : Nat) (hr_p01 : RdE w0 1 encI A_p01 p0.Won) (hz_p01 : SW A_p01 n_p01 c_p01 (List.length p0.Won)) (r : Int) (hr : m_auction_check N p0 = some r) :
    Calls Try.prog 27 [.agg #[.slice A_p01 n_p01 c_p01, .int .i64 p0.Price]].toArray w0 fun x w1 => ∃ u, x = .returned ((fun (r : Int) (_u : Unit) => .int .i64 r) r u) ∧ Hs w0 ((fun (_r : Int) (_u : Unit) => []) r u) w1 := by
  refine calls_cm (n := 20) (R := fun r x w1 => ∃ u, x = .returned ((fun (r : Int) (_u : Unit) => .int .i64 r) r u) ∧ Hs w0 ((fun (_r : Int) (_u : Unit) => []) r u) w1) Try.func27 rfl rfl (Nat.le_of_ble_eq_true rfl) ?_ r hr
  unfold m_auction_check
  refine cm_seq ?_
  refine cm_region ?_
  refine lm_box 1 [.slice _ _ _, .int .i64 _] (by kernel_rfl) rfl ?_
  intro b1
  refine lm_val 2 (by kernel_rfl) (fun w1 c1 => (op_assign (v := .int .i64 _) rfl)) ?_
  refine lm_nil ?_
  refine xm_next ?_
  refine cm_seq ?_
  refine cm_seq ?_
  refine cm_region ?_
  refine lm_val 3 (by kernel_rfl) (fun w1 c1 => (op_fieldL (m := 0) (k := 0) rfl (by kernel_rfl) rfl)) ?_
  refine lm_val 4 (by kernel_rfl) (fun w1 c1 => (op_load rfl (by kernel_rfl) (c1.cell 0 (u := .slice _ _ _) rfl rfl))) ?_
  refine lm_val 5 (by kernel_rfl) (fun w1 c1 => (op_lenN rfl (by kernel_rfl) hz_p01.2.2)) ?_
  refine lm_val 6 (by kernel_rfl) (fun w1 c1 => (op_gtr rfl rfl)) ?_
  refine lm_nil ?_
  refine xm_next ?_
  refine cm_cond (by kernel_rfl) rfl (fun h2 => ?_) (fun h2 => ?_)
  · skip
    refine cm_seq ?_
    refine cm_region ?_
    refine lm_val 2 (by kernel_rfl) (fun w1 c1 => (op_assign (v := .int .i64 _) rfl)) ?_
    refine lm_nil ?_
    refine xm_next ?_
    refine cm_ret ?_
    refine xm_thenR ?_
    exact xm_retT rfl (by kernel_rfl) (show _ = Value.int .i64 _ from rfl) fun w1 c1 => ⟨(), rfl, hsub [] (by kernel_rfl) rfl w1 c1⟩
  · skip
    refine cm_skip ?_
    refine xm_next ?_
    refine cm_seq ?_
    refine cm_seq ?_
    refine cm_callIf fun r3 h4 => ?_
    refine cm_cutE [(19, .bool (((decide (p0.Price < 0)) || (decide (1000000 < p0.Price))) || r3))] ?_ ?_
    · skip
      refine wq_val 7 (by kernel_rfl) (fun w1 c1 => (op_fieldL (m := 1) (k := 1) rfl (by kernel_rfl) rfl)) ?_
      refine wq_val 8 (by kernel_rfl) (fun w1 c1 => (op_load rfl (by kernel_rfl) (c1.cell 0 (u := .int .i64 _) rfl rfl))) ?_
      refine wq_dec 9 (by kernel_rfl) (fun w1 c1 => (op_lss rfl rfl)) (fun h5 => ?_) (fun h5 => ?_)
      · skip
        refine wq_val 10 (by kernel_rfl) (fun w1 c1 => (op_move (v := .bool true) rfl)) ?_
        refine wq_skip 11 (by kernel_rfl) ?_
        refine wq_skip 12 (by kernel_rfl) ?_
        refine wq_skip 13 (by kernel_rfl) ?_
        refine wq_val 14 (by kernel_rfl) (fun w1 c1 => (op_pick_t (v := .bool true) rfl rfl)) ?_
        refine wq_val 15 (by kernel_rfl) (fun w1 c1 => (op_move (v := .bool true) rfl)) ?_
        refine wq_skip 16 (by kernel_rfl) ?_
        refine wq_skip 17 (by kernel_rfl) ?_
        refine wq_skip 18 (by kernel_rfl) ?_
        refine wq_val 19 (by kernel_rfl) (fun w1 c1 => (op_pick_t (v := .bool true) rfl rfl)) ?_
        exact leaf_q (sub_out 13 _ rfl (by kernel_rfl) ⟨(congrArg Value.bool (by rw [decide_eq_true h5] <;> rfl)), trivial⟩)
      · skip
        refine wq_val 10 (by kernel_rfl) (fun w1 c1 => (op_move (v := .bool false) rfl)) ?_
        refine wq_val 11 (by kernel_rfl) (fun w1 c1 => (op_fieldL (m := 1) (k := 1) rfl (by kernel_rfl) rfl)) ?_
        refine wq_val 12 (by kernel_rfl) (fun w1 c1 => (op_load rfl (by kernel_rfl) (c1.cell 0 (u := .int .i64 _) rfl rfl))) ?_
        refine wq_dec 13 (by kernel_rfl) (fun w1 c1 => (op_gtr rfl rfl)) (fun h6 => ?_) (fun h6 => ?_)
        · skip
          refine wq_val 14 (by kernel_rfl) (fun w1 c1 => (op_pick_f (v := .bool true) rfl rfl)) ?_
          refine wq_val 15 (by kernel_rfl) (fun w1 c1 => (op_move (v := .bool true) rfl)) ?_
          refine wq_skip 16 (by kernel_rfl) ?_
          refine wq_skip 17 (by kernel_rfl) ?_
          refine wq_skip 18 (by kernel_rfl) ?_
          refine wq_val 19 (by kernel_rfl) (fun w1 c1 => (op_pick_t (v := .bool true) rfl rfl)) ?_
          exact leaf_q (sub_out 13 _ rfl (by kernel_rfl) ⟨(congrArg Value.bool (by rw [decide_eq_false h5, decide_eq_true h6] <;> rfl)), trivial⟩)
        · skip
          refine wq_val 14 (by kernel_rfl) (fun w1 c1 => (op_pick_f (v := .bool false) rfl rfl)) ?_
          refine wq_val 15 (by kernel_rfl) (fun w1 c1 => (op_move (v := .bool false) rfl)) ?_
          refine wq_val 16 (by kernel_rfl) (fun w1 c1 => (op_fieldL (m := 0) (k := 0) rfl (by kernel_rfl) rfl)) ?_
          refine wq_val 17 (by kernel_rfl) (fun w1 c1 => (op_load rfl (by kernel_rfl) (c1.cell 0 (u := .slice _ _ _) rfl rfl))) ?_
          refine wq_call 18 (by kernel_rfl) (fun w1 c1 => op_call (by kernel_rfl)) (fun w1 c1 => (m_slices_ContainsFunc_auction_check_1_ok N w1 p0.Won A_p01 n_p01 c_p01 (hr_p01.old c1) hz_p01 r3 (h4 (by rw [decide_eq_false h5, decide_eq_false h6] <;> rfl))).mono (fun _ _ ⟨_, hx, hu⟩ => ⟨hx, c1.call hu⟩)) ?_
          refine wq_val 19 (by kernel_rfl) (fun w1 c1 => (op_pick_f (v := .bool _) rfl rfl)) ?_
          exact leaf_q (sub_out 13 _ rfl (by kernel_rfl) ⟨(congrArg Value.bool (by rw [decide_eq_false h5, decide_eq_false h6] <;> rfl)), trivial⟩)
    refine xm_next ?_
    refine cm_condB (by kernel_rfl) rfl (fun h7 => ?_) (fun h7 => ?_)
    · skip
      refine cm_seq ?_
      refine cm_region ?_
      refine lm_val 2 (by kernel_rfl) (fun w1 c1 => (op_assign (v := .int .i64 _) rfl)) ?_
      refine lm_nil ?_
      refine xm_next ?_
      refine cm_ret ?_
      refine xm_thenR ?_
      exact xm_retT rfl (by kernel_rfl) (show _ = Value.int .i64 _ from rfl) fun w1 c1 => ⟨(), rfl, hsub [] (by kernel_rfl) rfl w1 c1⟩
    · skip
      refine cm_skip ?_
      refine xm_next ?_
      refine cm_seq ?_
      refine cm_region ?_
      refine lm_val 2 (by kernel_rfl) (fun w1 c1 => (op_assign (v := .int .i64 _) rfl)) ?_
      refine lm_nil ?_
      refine xm_next ?_
      refine cm_ret ?_
      exact xm_retT rfl (by kernel_rfl) (show _ = Value.int .i64 _ from rfl) fun w1 c1 => ⟨(), rfl, hsub [] (by kernel_rfl) rfl w1 c1⟩
/-- auction.Revenue -/
def m_auction_Revenue (N : Nat) (p0 : ApiOutcome) : Option (Int × Int) :=
  Option.bind (m_auction_check N p0) fun r2 => (if r2 ≠ 0 then
    some (((0 : Int), r2))
  else
    (andThen
      (loopM (fun (s42 : Int × Int) =>
        (if s42.2 < (List.length p0.Won : Int) then
          ck ((0 : Int) ≤ s42.2 ∧ s42.2 < (List.length p0.Won : Int)) (
            ck (I64 ((ix p0.Won s42.2) * p0.Price)) (
              ck (I64 (s42.1 + ((ix p0.Won s42.2) * p0.Price))) (
                ck (I64 (s42.2 + (1 : Int))) (
                  some (.next ((s42.1 + ((ix p0.Won s42.2) * p0.Price)), (s42.2 + (1 : Int))))))))
        else
          some (.done (.next s42.1)))) N ((0 : Int), (0 : Int)))
    fun (s26 : Int) =>
      some ((s26, (0 : Int)))))
set_option maxRecDepth 20000 in
theorem m_auction_Revenue_ok (N : Nat) (w0 : World) (p0 : ApiOutcome) (A_p01 : Option Addr) (n_p01 c_p01 : Nat) (hr_p01 : RdE w0 1 encI A_p01 p0.Won) (hz_p01 : SW A_p01 n_p01 c_p01 (List.length p0.Won)) (r : Int × Int) (hr : m_auction_Revenue N p0 = some r) :
    Calls Try.prog 17 [.agg #[.slice A_p01 n_p01 c_p01, .int .i64 p0.Price]].toArray w0 fun x w1 => ∃ u, x = .returned ((fun (r : Int × Int) (_u : Unit) => .tuple #[.int .i64 r.1, .int .i64 r.2]) r u) ∧ Hs w0 ((fun (_r : Int × Int) (_u : Unit) => []) r u) w1 := by
  refine calls_cm (n := 28) (R := fun r x w1 => ∃ u, x = .returned ((fun (r : Int × Int) (_u : Unit) => .tuple #[.int .i64 r.1, .int .i64 r.2]) r u) ∧ Hs w0 ((fun (_r : Int × Int) (_u : Unit) => []) r u) w1) Try.func17 rfl rfl (Nat.le_of_ble_eq_true rfl) ?_ r hr
  unfold m_auction_Revenue
  refine cm_seq ?_
  refine cm_region ?_
  refine lm_box 1 [.slice _ _ _, .int .i64 _] (by kernel_rfl) rfl ?_
  intro b1
  refine lm_val 2 (by kernel_rfl) (fun w1 c1 => (op_assign (v := .int .i64 _) rfl)) ?_
  refine lm_val 3 (by kernel_rfl) (fun w1 c1 => (op_assign (v := .int .i64 _) rfl)) ?_
  refine lm_nil ?_
  refine xm_next ?_
  refine cm_seq ?_
  refine cm_seq ?_
  refine cm_region ?_
  refine lm_val 8 (by kernel_rfl) (fun w1 c1 => (op_loadR [.slice _ _ _, .int .i64 _] rfl (by kernel_rfl) (c1.cells 0 rfl rfl))) ?_
  refine lm_call 9 (V := (fun (r : Int) (_u : Unit) => .int .i64 r)) (HR := (fun (_r : Int) (_u : Unit) => [])) (by kernel_rfl) (fun w1 => op_call (by kernel_rfl)) (fun r1 hr1 w1 c1 => m_auction_check_ok N w1 p0 A_p01 n_p01 c_p01 (hr_p01.old c1) hz_p01 r1 hr1) ?_
  intro r2 u3
  refine lm_val 4 (by kernel_rfl) (fun w1 c1 => (op_assign (v := .int .i64 _) rfl)) ?_
  refine lm_nil ?_
  refine xm_next ?_
  refine cm_seq ?_
  refine cm_region ?_
  refine lm_val 10 (by kernel_rfl) (fun w1 c1 => (op_move (v := .int .i64 _) rfl)) ?_
  refine lm_val 11 (by kernel_rfl) (fun w1 c1 => (op_neq rfl rfl)) ?_
  refine lm_nil ?_
  refine xm_next ?_
  refine cm_cond (by kernel_rfl) rfl (fun h4 => ?_) (fun h4 => ?_)
  · skip
    refine cm_seq ?_
    refine cm_region ?_
    refine lm_val 12 (by kernel_rfl) (fun w1 c1 => (op_move (v := .int .i64 _) rfl)) ?_
    refine lm_val 2 (by kernel_rfl) (fun w1 c1 => (op_assign (v := .int .i64 _) rfl)) ?_
    refine lm_val 3 (by kernel_rfl) (fun w1 c1 => (op_assign (v := .int .i64 _) rfl)) ?_
    refine lm_nil ?_
    refine xm_next ?_
    refine cm_ret ?_
    refine xm_thenR ?_
    exact xm_retTT rfl (by kernel_rfl) (show _ = Value.int .i64 _ from rfl) (by kernel_rfl) (show _ = Value.int .i64 _ from rfl) fun w1 c1 => ⟨(), rfl, hsub [] (by kernel_rfl) rfl w1 c1⟩
  · skip
    refine cm_skip ?_
    refine xm_next ?_
    refine cm_seq ?_
    refine cm_region ?_
    refine lm_val 5 (by kernel_rfl) (fun w1 c1 => (op_assign (v := .int .i64 _) rfl)) ?_
    refine lm_nil ?_
    refine xm_next ?_
    refine cm_join (σ := Int) (ξ := Unit) (fun s26 u27 => [(5, .int .i64 s26)]) (fun s26 u27 => []) ?_ ?_
    · skip
      refine cm_seq ?_
      refine cm_region ?_
      refine lm_val 13 (by kernel_rfl) (fun w1 c1 => (op_fieldL (m := 0) (k := 0) rfl (by kernel_rfl) rfl)) ?_
      refine lm_val 14 (by kernel_rfl) (fun w1 c1 => (op_load rfl (by kernel_rfl) (c1.cell 0 (u := .slice _ _ _) rfl rfl))) ?_
      refine lm_val 15 (by kernel_rfl) (fun w1 c1 => (op_lenN rfl (by kernel_rfl) hz_p01.2.2)) ?_
      refine lm_val 16 (by kernel_rfl) (fun w1 c1 => (op_move (v := .int .i64 _) rfl)) ?_
      refine lm_nil ?_
      refine xm_next ?_
      refine cm_block ?_
      refine cm_loop (σ := Int × Int) (ξ := Unit) (fun s42 u43 => [(1, .pointer (some ⟨b1, 0, none⟩)), (5, .int .i64 s42.1), (14, .slice A_p01 n_p01 c_p01), (15, .int .i64 (List.length p0.Won : Int)), (16, .int .i64 s42.2)]) (fun s42 u43 => [blkE b1 29 [.slice A_p01 n_p01 c_p01, .int .i64 p0.Price]]) () ?_ ?_ ?_
      · exact (sub_cons (by kernel_rfl) rfl (sub_cons (by kernel_rfl) rfl (sub_cons (by kernel_rfl) rfl (sub_cons (by kernel_rfl) rfl (sub_cons (by kernel_rfl) rfl sub_nil)))))
      · exact hsub [0] (by kernel_rfl) rfl
      intro s42 u43
      refine cm_seq ?_
      refine cm_region ?_
      refine lm_val 17 (by kernel_rfl) (fun w1 c1 => (op_lss rfl rfl)) ?_
      refine lm_nil ?_
      refine xm_next ?_
      refine cm_seq ?_
      refine cm_cond (by kernel_rfl) rfl (fun h44 => ?_) (fun h44 => ?_)
      · skip
        refine cm_skip ?_
        refine xm_next ?_
        refine cm_seq ?_
        refine cm_block ?_
        refine cm_seq ?_
        refine cm_region ?_
        refine lm_ck (fun h45 => ?_)
        refine lm_val 18 (by kernel_rfl) (fun w1 c1 => (op_indexA 1 rfl rfl (by kernel_rfl) ((hr_p01.old c1).addr h45.1 h45.2) hz_p01.2.2 h45.1 h45.2)) ?_
        refine lm_val 19 (by kernel_rfl) (fun w1 c1 => (op_load (v := .int .i64 (ix p0.Won s42.2)) rfl (by kernel_rfl) ((hr_p01.old c1).cell0 h45.1 h45.2 rfl))) ?_
        refine lm_val 7 (by kernel_rfl) (fun w1 c1 => (op_assign (v := .int .i64 _) rfl)) ?_
        refine lm_nil ?_
        refine xm_next ?_
        refine cm_region ?_
        refine lm_val 20 (by kernel_rfl) (fun w1 c1 => (op_move (v := .int .i64 _) rfl)) ?_
        refine lm_val 21 (by kernel_rfl) (fun w1 c1 => (op_move (v := .int .i64 _) rfl)) ?_
        refine lm_val 22 (by kernel_rfl) (fun w1 c1 => (op_fieldL (m := 1) (k := 1) rfl (by kernel_rfl) rfl)) ?_
        refine lm_val 23 (by kernel_rfl) (fun w1 c1 => (op_load rfl (by kernel_rfl) (c1.cell 0 (u := .int .i64 _) rfl rfl))) ?_
        refine lm_ck (fun h46 => ?_)
        refine lm_val 24 (by kernel_rfl) (fun w1 c1 => (op_mul rfl rfl h46)) ?_
        refine lm_ck (fun h47 => ?_)
        refine lm_val 25 (by kernel_rfl) (fun w1 c1 => (op_add rfl rfl h47)) ?_
        refine lm_val 5 (by kernel_rfl) (fun w1 c1 => (op_assign (v := .int .i64 _) rfl)) ?_
        refine lm_nil ?_
        refine xm_inN ?_
        refine xm_next ?_
        refine cm_region ?_
        refine lm_ck (fun h48 => ?_)
        refine lm_val 26 (by kernel_rfl) (fun w1 c1 => (op_add rfl rfl h48)) ?_
        refine lm_val 16 (by kernel_rfl) (fun w1 c1 => (op_move (v := .int .i64 _) rfl)) ?_
        refine lm_nil ?_
        exact xm_lnext () (sub_cons (by kernel_rfl) rfl (sub_cons (by kernel_rfl) rfl (sub_cons (by kernel_rfl) rfl (sub_cons (by kernel_rfl) rfl (sub_cons (by kernel_rfl) rfl sub_nil))))) (hsub [0] (by kernel_rfl) rfl)
      · skip
        refine cm_exit ?_
        refine xm_thenE ?_
        refine xm_lexit ?_
        refine xm_here ?_
        exact xm_lnext () (sub_cons (by kernel_rfl) rfl sub_nil) (hsub [] (by kernel_rfl) rfl)
    intro s26 u27
    refine cm_seq ?_
    refine cm_region ?_
    refine lm_val 27 (by kernel_rfl) (fun w1 c1 => (op_move (v := .int .i64 _) rfl)) ?_
    refine lm_val 2 (by kernel_rfl) (fun w1 c1 => (op_assign (v := .int .i64 _) rfl)) ?_
    refine lm_val 3 (by kernel_rfl) (fun w1 c1 => (op_assign (v := .int .i64 _) rfl)) ?_
    refine lm_nil ?_
    refine xm_next ?_
    refine cm_ret ?_
    exact xm_retTT rfl (by kernel_rfl) (show _ = Value.int .i64 _ from rfl) (by kernel_rfl) (show _ = Value.int .i64 _ from rfl) fun w1 c1 => ⟨(), rfl, hsub [] (by kernel_rfl) rfl w1 c1⟩
/-- auction.Gain -/
def m_auction_Gain (N : Nat) (p0 : ApiOutcome) (p1 : Int) (p2 : Int) : Option (Int × Int) :=
  Option.bind (m_auction_check N p0) fun r2 => (if r2 ≠ 0 then
    some (((0 : Int), r2))
  else
    (if ((decide (p1 < 0)) || (decide ((List.length p0.Won : Int) ≤ p1))) = true then
      some (((0 : Int), (7 : Int)))
    else
      (if ((decide (p2 < 0)) || (decide (1000000 < p2))) = true then
        some (((0 : Int), (1 : Int)))
      else
        ck ((0 : Int) ≤ p1 ∧ p1 < (List.length p0.Won : Int)) (
          ck (I64 (p2 - p0.Price)) (
            ck (I64 ((ix p0.Won p1) * (p2 - p0.Price))) (
              some ((((ix p0.Won p1) * (p2 - p0.Price)), (0 : Int)))))))))
set_option maxRecDepth 20000 in
theorem m_auction_Gain_ok (N : Nat) (w0 : World) (p0 : ApiOutcome) (p1 : Int) (p2 : Int) (A_p01 : Option Addr) (n_p01 c_p01 : Nat) (hr_p01 : RdE w0 1 encI A_p01 p0.Won) (hz_p01 : SW A_p01 n_p01 c_p01 (List.length p0.Won)) (r : Int × Int) (hr : m_auction_Gain N p0 p1 p2 = some r) :
    Calls Try.prog 19 [.agg #[.slice A_p01 n_p01 c_p01, .int .i64 p0.Price], .int .i64 p1, .int .i64 p2].toArray w0 fun x w1 => ∃ u, x = .returned ((fun (r : Int × Int) (_u : Unit) => .tuple #[.int .i64 r.1, .int .i64 r.2]) r u) ∧ Hs w0 ((fun (_r : Int × Int) (_u : Unit) => []) r u) w1 := by
  refine calls_cm (n := 39) (R := fun r x w1 => ∃ u, x = .returned ((fun (r : Int × Int) (_u : Unit) => .tuple #[.int .i64 r.1, .int .i64 r.2]) r u) ∧ Hs w0 ((fun (_r : Int × Int) (_u : Unit) => []) r u) w1) Try.func19 rfl rfl (Nat.le_of_ble_eq_true rfl) ?_ r hr
  unfold m_auction_Gain
  refine cm_seq ?_
  refine cm_region ?_
  refine lm_box 3 [.slice _ _ _, .int .i64 _] (by kernel_rfl) rfl ?_
  intro b1
  refine lm_val 6 (by kernel_rfl) (fun w1 c1 => (op_assign (v := .int .i64 _) rfl)) ?_
  refine lm_val 7 (by kernel_rfl) (fun w1 c1 => (op_assign (v := .int .i64 _) rfl)) ?_
  refine lm_nil ?_
  refine xm_next ?_
  refine cm_seq ?_
  refine cm_seq ?_
  refine cm_region ?_
  refine lm_val 9 (by kernel_rfl) (fun w1 c1 => (op_loadR [.slice _ _ _, .int .i64 _] rfl (by kernel_rfl) (c1.cells 0 rfl rfl))) ?_
  refine lm_call 10 (V := (fun (r : Int) (_u : Unit) => .int .i64 r)) (HR := (fun (_r : Int) (_u : Unit) => [])) (by kernel_rfl) (fun w1 => op_call (by kernel_rfl)) (fun r1 hr1 w1 c1 => m_auction_check_ok N w1 p0 A_p01 n_p01 c_p01 (hr_p01.old c1) hz_p01 r1 hr1) ?_
  intro r2 u3
  refine lm_val 8 (by kernel_rfl) (fun w1 c1 => (op_assign (v := .int .i64 _) rfl)) ?_
  refine lm_nil ?_
  refine xm_next ?_
  refine cm_seq ?_
  refine cm_region ?_
  refine lm_val 11 (by kernel_rfl) (fun w1 c1 => (op_move (v := .int .i64 _) rfl)) ?_
  refine lm_val 12 (by kernel_rfl) (fun w1 c1 => (op_neq rfl rfl)) ?_
  refine lm_nil ?_
  refine xm_next ?_
  refine cm_cond (by kernel_rfl) rfl (fun h4 => ?_) (fun h4 => ?_)
  · skip
    refine cm_seq ?_
    refine cm_region ?_
    refine lm_val 13 (by kernel_rfl) (fun w1 c1 => (op_move (v := .int .i64 _) rfl)) ?_
    refine lm_val 6 (by kernel_rfl) (fun w1 c1 => (op_assign (v := .int .i64 _) rfl)) ?_
    refine lm_val 7 (by kernel_rfl) (fun w1 c1 => (op_assign (v := .int .i64 _) rfl)) ?_
    refine lm_nil ?_
    refine xm_next ?_
    refine cm_ret ?_
    refine xm_thenR ?_
    exact xm_retTT rfl (by kernel_rfl) (show _ = Value.int .i64 _ from rfl) (by kernel_rfl) (show _ = Value.int .i64 _ from rfl) fun w1 c1 => ⟨(), rfl, hsub [] (by kernel_rfl) rfl w1 c1⟩
  · skip
    refine cm_skip ?_
    refine xm_next ?_
    refine cm_seq ?_
    refine cm_seq ?_
    refine cm_cutE [(22, .bool ((decide (p1 < 0)) || (decide ((List.length p0.Won : Int) ≤ p1))))] ?_ ?_
    · skip
      refine wq_val 14 (by kernel_rfl) (fun w1 c1 => (op_move (v := .int .i64 _) rfl)) ?_
      refine wq_dec 15 (by kernel_rfl) (fun w1 c1 => (op_lss rfl rfl)) (fun h5 => ?_) (fun h5 => ?_)
      · skip
        refine wq_val 16 (by kernel_rfl) (fun w1 c1 => (op_move (v := .bool true) rfl)) ?_
        refine wq_skip 17 (by kernel_rfl) ?_
        refine wq_skip 18 (by kernel_rfl) ?_
        refine wq_skip 19 (by kernel_rfl) ?_
        refine wq_skip 20 (by kernel_rfl) ?_
        refine wq_skip 21 (by kernel_rfl) ?_
        refine wq_val 22 (by kernel_rfl) (fun w1 c1 => (op_pick_t (v := .bool true) rfl rfl)) ?_
        exact leaf_q (sub_out 9 _ rfl (by kernel_rfl) ⟨(congrArg Value.bool (by rw [decide_eq_true h5] <;> rfl)), trivial⟩)
      · skip
        refine wq_val 16 (by kernel_rfl) (fun w1 c1 => (op_move (v := .bool false) rfl)) ?_
        refine wq_val 17 (by kernel_rfl) (fun w1 c1 => (op_move (v := .int .i64 _) rfl)) ?_
        refine wq_val 18 (by kernel_rfl) (fun w1 c1 => (op_fieldL (m := 0) (k := 0) rfl (by kernel_rfl) rfl)) ?_
        refine wq_val 19 (by kernel_rfl) (fun w1 c1 => (op_load rfl (by kernel_rfl) (c1.cell 0 (u := .slice _ _ _) rfl rfl))) ?_
        refine wq_val 20 (by kernel_rfl) (fun w1 c1 => (op_lenN rfl (by kernel_rfl) hz_p01.2.2)) ?_
        refine wq_val 21 (by kernel_rfl) (fun w1 c1 => (op_geq rfl rfl)) ?_
        refine wq_val 22 (by kernel_rfl) (fun w1 c1 => (op_pick_f (v := .bool _) rfl rfl)) ?_
        exact leaf_q (sub_out 9 _ rfl (by kernel_rfl) ⟨(congrArg Value.bool (by rw [decide_eq_false h5] <;> rfl)), trivial⟩)
    refine xm_next ?_
    refine cm_condB (by kernel_rfl) rfl (fun h6 => ?_) (fun h6 => ?_)
    · skip
      refine cm_seq ?_
      refine cm_region ?_
      refine lm_val 6 (by kernel_rfl) (fun w1 c1 => (op_assign (v := .int .i64 _) rfl)) ?_
      refine lm_val 7 (by kernel_rfl) (fun w1 c1 => (op_assign (v := .int .i64 _) rfl)) ?_
      refine lm_nil ?_
      refine xm_next ?_
      refine cm_ret ?_
      refine xm_thenR ?_
      exact xm_retTT rfl (by kernel_rfl) (show _ = Value.int .i64 _ from rfl) (by kernel_rfl) (show _ = Value.int .i64 _ from rfl) fun w1 c1 => ⟨(), rfl, hsub [] (by kernel_rfl) rfl w1 c1⟩
    · skip
      refine cm_skip ?_
      refine xm_next ?_
      refine cm_seq ?_
      refine cm_seq ?_
      refine cm_cutE [(28, .bool ((decide (p2 < 0)) || (decide (1000000 < p2))))] ?_ ?_
      · skip
        refine wq_val 23 (by kernel_rfl) (fun w1 c1 => (op_move (v := .int .i64 _) rfl)) ?_
        refine wq_dec 24 (by kernel_rfl) (fun w1 c1 => (op_lss rfl rfl)) (fun h7 => ?_) (fun h7 => ?_)
        · skip
          refine wq_val 25 (by kernel_rfl) (fun w1 c1 => (op_move (v := .bool true) rfl)) ?_
          refine wq_skip 26 (by kernel_rfl) ?_
          refine wq_skip 27 (by kernel_rfl) ?_
          refine wq_val 28 (by kernel_rfl) (fun w1 c1 => (op_pick_t (v := .bool true) rfl rfl)) ?_
          exact leaf_q (sub_out 6 _ rfl (by kernel_rfl) ⟨(congrArg Value.bool (by rw [decide_eq_true h7] <;> rfl)), trivial⟩)
        · skip
          refine wq_val 25 (by kernel_rfl) (fun w1 c1 => (op_move (v := .bool false) rfl)) ?_
          refine wq_val 26 (by kernel_rfl) (fun w1 c1 => (op_move (v := .int .i64 _) rfl)) ?_
          refine wq_val 27 (by kernel_rfl) (fun w1 c1 => (op_gtr rfl rfl)) ?_
          refine wq_val 28 (by kernel_rfl) (fun w1 c1 => (op_pick_f (v := .bool _) rfl rfl)) ?_
          exact leaf_q (sub_out 6 _ rfl (by kernel_rfl) ⟨(congrArg Value.bool (by rw [decide_eq_false h7] <;> rfl)), trivial⟩)
      refine xm_next ?_
      refine cm_condB (by kernel_rfl) rfl (fun h8 => ?_) (fun h8 => ?_)
      · skip
        refine cm_seq ?_
        refine cm_region ?_
        refine lm_val 6 (by kernel_rfl) (fun w1 c1 => (op_assign (v := .int .i64 _) rfl)) ?_
        refine lm_val 7 (by kernel_rfl) (fun w1 c1 => (op_assign (v := .int .i64 _) rfl)) ?_
        refine lm_nil ?_
        refine xm_next ?_
        refine cm_ret ?_
        refine xm_thenR ?_
        exact xm_retTT rfl (by kernel_rfl) (show _ = Value.int .i64 _ from rfl) (by kernel_rfl) (show _ = Value.int .i64 _ from rfl) fun w1 c1 => ⟨(), rfl, hsub [] (by kernel_rfl) rfl w1 c1⟩
      · skip
        refine cm_skip ?_
        refine xm_next ?_
        refine cm_seq ?_
        refine cm_ck (fun h9 => ?_)
        refine cm_ck (fun h10 => ?_)
        refine cm_ck (fun h11 => ?_)
        refine cm_drawn [(6, .int .i64 ((ix p0.Won p1) * (p2 - p0.Price))), (7, .int .i64 0)] (by kernel_rfl) (by kernel_rfl) ?_ ?_
        · skip
          refine wq_val 29 (by kernel_rfl) (fun w1 c1 => (op_fieldL (m := 0) (k := 0) rfl (by kernel_rfl) rfl)) ?_
          refine wq_val 30 (by kernel_rfl) (fun w1 c1 => (op_load rfl (by kernel_rfl) (c1.cell 0 (u := .slice _ _ _) rfl rfl))) ?_
          refine wq_val 31 (by kernel_rfl) (fun w1 c1 => (op_move (v := .int .i64 _) rfl)) ?_
          refine wq_val 32 (by kernel_rfl) (fun w1 c1 => (op_indexA 1 rfl rfl (by kernel_rfl) ((hr_p01.old c1).addr h9.1 h9.2) hz_p01.2.2 h9.1 h9.2)) ?_
          refine wq_val 33 (by kernel_rfl) (fun w1 c1 => (op_load (v := .int .i64 (ix p0.Won p1)) rfl (by kernel_rfl) ((hr_p01.old c1).cell0 h9.1 h9.2 rfl))) ?_
          refine wq_val 34 (by kernel_rfl) (fun w1 c1 => (op_move (v := .int .i64 _) rfl)) ?_
          refine wq_val 35 (by kernel_rfl) (fun w1 c1 => (op_fieldL (m := 1) (k := 1) rfl (by kernel_rfl) rfl)) ?_
          refine wq_val 36 (by kernel_rfl) (fun w1 c1 => (op_load rfl (by kernel_rfl) (c1.cell 0 (u := .int .i64 _) rfl rfl))) ?_
          refine wq_val 37 (by kernel_rfl) (fun w1 c1 => (op_sub rfl rfl h10)) ?_
          refine wq_val 38 (by kernel_rfl) (fun w1 c1 => (op_mul rfl rfl h11)) ?_
          refine wq_val 6 (by kernel_rfl) (fun w1 c1 => (op_assign (v := .int .i64 _) rfl)) ?_
          refine wq_val 7 (by kernel_rfl) (fun w1 c1 => (op_assign (v := .int .i64 _) rfl)) ?_
          exact leaf_q (sub_out 12 _ rfl (by kernel_rfl) ⟨rfl, rfl, trivial⟩)
        refine xm_next ?_
        refine cm_ret ?_
        exact xm_retTT rfl (by kernel_rfl) (show _ = Value.int .i64 _ from rfl) (by kernel_rfl) (show _ = Value.int .i64 _ from rfl) fun w1 c1 => ⟨(), rfl, hsub [] (by kernel_rfl) rfl w1 c1⟩
/-- cmp.isNaN -/
def m_cmp_isNaN (_N : Nat) (p0 : Int) : Option (Bool) :=
  some ((decide (p0 ≠ p0)))
set_option maxRecDepth 20000 in
theorem m_cmp_isNaN_ok (N : Nat) (w0 : World) (p0 : Int)   (r : Bool) (hr : m_cmp_isNaN N p0 = some r) :
    Calls Try.prog 41 [.int .i64 p0].toArray w0 fun x w1 => ∃ u, x = .returned ((fun (r : Bool) (_u : Unit) => .bool r) r u) ∧ Hs w0 ((fun (_r : Bool) (_u : Unit) => []) r u) w1 := by
  refine calls_cm (n := 6) (R := fun r x w1 => ∃ u, x = .returned ((fun (r : Bool) (_u : Unit) => .bool r) r u) ∧ Hs w0 ((fun (_r : Bool) (_u : Unit) => []) r u) w1) Try.func41 rfl rfl (Nat.le_of_ble_eq_true rfl) ?_ r hr
  unfold m_cmp_isNaN
  refine cm_seq ?_
  refine cm_region ?_
  refine lm_val 2 (by kernel_rfl) (fun w1 c1 => (op_assign (v := .bool false) rfl)) ?_
  refine lm_nil ?_
  refine xm_next ?_
  refine cm_seq ?_
  refine cm_region ?_
  refine lm_val 3 (by kernel_rfl) (fun w1 c1 => (op_move (v := .int .i64 _) rfl)) ?_
  refine lm_val 4 (by kernel_rfl) (fun w1 c1 => (op_move (v := .int .i64 _) rfl)) ?_
  refine lm_val 5 (by kernel_rfl) (fun w1 c1 => (op_neq rfl rfl)) ?_
  refine lm_val 2 (by kernel_rfl) (fun w1 c1 => (op_assign (v := .bool _) rfl)) ?_
  refine lm_nil ?_
  refine xm_next ?_
  refine cm_ret ?_
  exact xm_retT rfl (by kernel_rfl) (show _ = Value.bool _ from rfl) fun w1 c1 => ⟨(), rfl, hsub [] (by kernel_rfl) rfl w1 c1⟩
/-- cmp.Compare -/
def m_cmp_Compare (N : Nat) (p0 : Int) (p1 : Int) : Option (Int) :=
  Option.bind (m_cmp_isNaN N p0) fun r1 => Option.bind (m_cmp_isNaN N p1) fun r3 => (if r1 = true then
    (if r3 = true then
      some ((0 : Int))
    else
      some ((-1 : Int)))
  else
    (if r3 = true then
      some ((1 : Int))
    else
      (if p0 < p1 then
        some ((-1 : Int))
      else
        (if p1 < p0 then
          some ((1 : Int))
        else
          some ((0 : Int))))))
set_option maxRecDepth 20000 in
theorem m_cmp_Compare_ok (N : Nat) (w0 : World) (p0 : Int) (p1 : Int)   (r : Int) (hr : m_cmp_Compare N p0 p1 = some r) :
    Calls Try.prog 35 [.int .i64 p0, .int .i64 p1].toArray w0 fun x w1 => ∃ u, x = .returned ((fun (r : Int) (_u : Unit) => .int .i64 r) r u) ∧ Hs w0 ((fun (_r : Int) (_u : Unit) => []) r u) w1 := by
  refine calls_cm (n := 20) (R := fun r x w1 => ∃ u, x = .returned ((fun (r : Int) (_u : Unit) => .int .i64 r) r u) ∧ Hs w0 ((fun (_r : Int) (_u : Unit) => []) r u) w1) Try.func35 rfl rfl (Nat.le_of_ble_eq_true rfl) ?_ r hr
  unfold m_cmp_Compare
  refine cm_seq ?_
  refine cm_region ?_
  refine lm_val 4 (by kernel_rfl) (fun w1 c1 => (op_assign (v := .int .i64 _) rfl)) ?_
  refine lm_nil ?_
  refine xm_next ?_
  refine cm_seq ?_
  refine cm_region ?_
  refine lm_val 7 (by kernel_rfl) (fun w1 c1 => (op_move (v := .int .i64 _) rfl)) ?_
  refine lm_call 8 (V := (fun (r : Bool) (_u : Unit) => .bool r)) (HR := (fun (_r : Bool) (_u : Unit) => [])) (by kernel_rfl) (fun w1 => op_call (by kernel_rfl)) (fun r1 hr1 w1 c1 => m_cmp_isNaN_ok N w1 p0  r1 hr1) ?_
  intro r1 u2
  refine lm_val 5 (by kernel_rfl) (fun w1 c1 => (op_assign (v := .bool _) rfl)) ?_
  refine lm_nil ?_
  refine xm_next ?_
  refine cm_seq ?_
  refine cm_region ?_
  refine lm_val 9 (by kernel_rfl) (fun w1 c1 => (op_move (v := .int .i64 _) rfl)) ?_
  refine lm_call 10 (V := (fun (r : Bool) (_u : Unit) => .bool r)) (HR := (fun (_r : Bool) (_u : Unit) => [])) (by kernel_rfl) (fun w1 => op_call (by kernel_rfl)) (fun r1 hr1 w1 c1 => m_cmp_isNaN_ok N w1 p1  r1 hr1) ?_
  intro r3 u4
  refine lm_val 6 (by kernel_rfl) (fun w1 c1 => (op_assign (v := .bool _) rfl)) ?_
  refine lm_nil ?_
  refine xm_next ?_
  refine cm_seq ?_
  refine cm_seq ?_
  refine cm_region ?_
  refine lm_val 11 (by kernel_rfl) (fun w1 c1 => (op_move (v := .bool _) rfl)) ?_
  refine lm_nil ?_
  refine xm_next ?_
  refine cm_condB (by kernel_rfl) rfl (fun h5 => ?_) (fun h5 => ?_)
  · skip
    refine cm_seq ?_
    refine cm_seq ?_
    refine cm_region ?_
    refine lm_val 12 (by kernel_rfl) (fun w1 c1 => (op_move (v := .bool _) rfl)) ?_
    refine lm_nil ?_
    refine xm_next ?_
    refine cm_condB (by kernel_rfl) rfl (fun h6 => ?_) (fun h6 => ?_)
    · skip
      refine cm_seq ?_
      refine cm_region ?_
      refine lm_val 4 (by kernel_rfl) (fun w1 c1 => (op_assign (v := .int .i64 _) rfl)) ?_
      refine lm_nil ?_
      refine xm_next ?_
      refine cm_ret ?_
      refine xm_thenR ?_
      refine xm_thenR ?_
      exact xm_retT rfl (by kernel_rfl) (show _ = Value.int .i64 _ from rfl) fun w1 c1 => ⟨(), rfl, hsub [] (by kernel_rfl) rfl w1 c1⟩
    · skip
      refine cm_skip ?_
      refine xm_next ?_
      refine cm_seq ?_
      refine cm_region ?_
      refine lm_val 4 (by kernel_rfl) (fun w1 c1 => (op_assign (v := .int .i64 _) rfl)) ?_
      refine lm_nil ?_
      refine xm_next ?_
      refine cm_ret ?_
      refine xm_thenR ?_
      exact xm_retT rfl (by kernel_rfl) (show _ = Value.int .i64 _ from rfl) fun w1 c1 => ⟨(), rfl, hsub [] (by kernel_rfl) rfl w1 c1⟩
  · skip
    refine cm_skip ?_
    refine xm_next ?_
    refine cm_seq ?_
    refine cm_seq ?_
    refine cm_region ?_
    refine lm_val 13 (by kernel_rfl) (fun w1 c1 => (op_move (v := .bool _) rfl)) ?_
    refine lm_nil ?_
    refine xm_next ?_
    refine cm_condB (by kernel_rfl) rfl (fun h7 => ?_) (fun h7 => ?_)
    · skip
      refine cm_seq ?_
      refine cm_region ?_
      refine lm_val 4 (by kernel_rfl) (fun w1 c1 => (op_assign (v := .int .i64 _) rfl)) ?_
      refine lm_nil ?_
      refine xm_next ?_
      refine cm_ret ?_
      refine xm_thenR ?_
      exact xm_retT rfl (by kernel_rfl) (show _ = Value.int .i64 _ from rfl) fun w1 c1 => ⟨(), rfl, hsub [] (by kernel_rfl) rfl w1 c1⟩
    · skip
      refine cm_skip ?_
      refine xm_next ?_
      refine cm_seq ?_
      refine cm_seq ?_
      refine cm_region ?_
      refine lm_val 14 (by kernel_rfl) (fun w1 c1 => (op_move (v := .int .i64 _) rfl)) ?_
      refine lm_val 15 (by kernel_rfl) (fun w1 c1 => (op_move (v := .int .i64 _) rfl)) ?_
      refine lm_val 16 (by kernel_rfl) (fun w1 c1 => (op_lss rfl rfl)) ?_
      refine lm_nil ?_
      refine xm_next ?_
      refine cm_cond (by kernel_rfl) rfl (fun h8 => ?_) (fun h8 => ?_)
      · skip
        refine cm_seq ?_
        refine cm_region ?_
        refine lm_val 4 (by kernel_rfl) (fun w1 c1 => (op_assign (v := .int .i64 _) rfl)) ?_
        refine lm_nil ?_
        refine xm_next ?_
        refine cm_ret ?_
        refine xm_thenR ?_
        exact xm_retT rfl (by kernel_rfl) (show _ = Value.int .i64 _ from rfl) fun w1 c1 => ⟨(), rfl, hsub [] (by kernel_rfl) rfl w1 c1⟩
      · skip
        refine cm_skip ?_
        refine xm_next ?_
        refine cm_seq ?_
        refine cm_seq ?_
        refine cm_region ?_
        refine lm_val 17 (by kernel_rfl) (fun w1 c1 => (op_move (v := .int .i64 _) rfl)) ?_
        refine lm_val 18 (by kernel_rfl) (fun w1 c1 => (op_move (v := .int .i64 _) rfl)) ?_
        refine lm_val 19 (by kernel_rfl) (fun w1 c1 => (op_gtr rfl rfl)) ?_
        refine lm_nil ?_
        refine xm_next ?_
        refine cm_cond (by kernel_rfl) rfl (fun h9 => ?_) (fun h9 => ?_)
        · skip
          refine cm_seq ?_
          refine cm_region ?_
          refine lm_val 4 (by kernel_rfl) (fun w1 c1 => (op_assign (v := .int .i64 _) rfl)) ?_
          refine lm_nil ?_
          refine xm_next ?_
          refine cm_ret ?_
          refine xm_thenR ?_
          exact xm_retT rfl (by kernel_rfl) (show _ = Value.int .i64 _ from rfl) fun w1 c1 => ⟨(), rfl, hsub [] (by kernel_rfl) rfl w1 c1⟩
        · skip
          refine cm_skip ?_
          refine xm_next ?_
          refine cm_seq ?_
          refine cm_region ?_
          refine lm_val 4 (by kernel_rfl) (fun w1 c1 => (op_assign (v := .int .i64 _) rfl)) ?_
          refine lm_nil ?_
          refine xm_next ?_
          refine cm_ret ?_
          exact xm_retT rfl (by kernel_rfl) (show _ = Value.int .i64 _ from rfl) fun w1 c1 => ⟨(), rfl, hsub [] (by kernel_rfl) rfl w1 c1⟩
/-- cmp.Or -/
def m_cmp_Or (N : Nat) (p0 : (List Int)) : Option (Int) :=
  (andThen
    (loopM (fun (s33 : Int) =>
      (if s33 < (List.length p0 : Int) then
        ck ((0 : Int) ≤ s33 ∧ s33 < (List.length p0 : Int)) (
          (if (ix p0 s33) ≠ 0 then
            some (.done (.done ((ix p0 s33))))
          else
            ck (I64 (s33 + (1 : Int))) (
              some (.next (s33 + (1 : Int))))))
      else
        some (.done (.next ())))) N (0 : Int))
  fun (_s19 : Unit) =>
    some ((0 : Int)))
set_option maxRecDepth 20000 in
theorem m_cmp_Or_ok (N : Nat) (w0 : World) (p0 : (List Int)) (A_p0 : Option Addr) (n_p0 c_p0 : Nat) (hr_p0 : RdE w0 1 encI A_p0 p0) (hz_p0 : SW A_p0 n_p0 c_p0 (List.length p0)) (r : Int) (hr : m_cmp_Or N p0 = some r) :
    Calls Try.prog 34 [.slice A_p0 n_p0 c_p0].toArray w0 fun x w1 => ∃ u, x = .returned ((fun (r : Int) (_u : Unit) => .int .i64 r) r u) ∧ Hs w0 ((fun (_r : Int) (_u : Unit) => []) r u) w1 := by
  refine calls_cm (n := 18) (R := fun r x w1 => ∃ u, x = .returned ((fun (r : Int) (_u : Unit) => .int .i64 r) r u) ∧ Hs w0 ((fun (_r : Int) (_u : Unit) => []) r u) w1) Try.func34 rfl rfl (Nat.le_of_ble_eq_true rfl) ?_ r hr
  unfold m_cmp_Or
  refine cm_seq ?_
  refine cm_region ?_
  refine lm_val 2 (by kernel_rfl) (fun w1 c1 => (op_assign (v := .int .i64 _) rfl)) ?_
  refine lm_nil ?_
  refine xm_next ?_
  refine cm_seq ?_
  refine cm_region ?_
  refine lm_val 3 (by kernel_rfl) (fun w1 c1 => (op_assign (v := .int .i64 _) rfl)) ?_
  refine lm_nil ?_
  refine xm_next ?_
  refine cm_join (σ := Unit) (ξ := Unit) (fun s19 u20 => [(3, .int .i64 0)]) (fun s19 u20 => []) ?_ ?_
  · skip
    refine cm_seq ?_
    refine cm_region ?_
    refine lm_val 6 (by kernel_rfl) (fun w1 c1 => (op_move (v := .slice _ _ _) rfl)) ?_
    refine lm_val 7 (by kernel_rfl) (fun w1 c1 => (op_lenN rfl (by kernel_rfl) hz_p0.2.2)) ?_
    refine lm_val 8 (by kernel_rfl) (fun w1 c1 => (op_move (v := .int .i64 _) rfl)) ?_
    refine lm_nil ?_
    refine xm_next ?_
    refine cm_block ?_
    refine cm_loop (σ := Int) (ξ := Unit) (fun s33 u34 => [(3, .int .i64 0), (6, .slice A_p0 n_p0 c_p0), (7, .int .i64 (List.length p0 : Int)), (8, .int .i64 s33)]) (fun s33 u34 => []) () ?_ ?_ ?_
    · exact (sub_cons (by kernel_rfl) rfl (sub_cons (by kernel_rfl) rfl (sub_cons (by kernel_rfl) rfl (sub_cons (by kernel_rfl) rfl sub_nil))))
    · exact hsub [] (by kernel_rfl) rfl
    intro s33 u34
    refine cm_seq ?_
    refine cm_region ?_
    refine lm_val 9 (by kernel_rfl) (fun w1 c1 => (op_lss rfl rfl)) ?_
    refine lm_nil ?_
    refine xm_next ?_
    refine cm_seq ?_
    refine cm_cond (by kernel_rfl) rfl (fun h35 => ?_) (fun h35 => ?_)
    · skip
      refine cm_skip ?_
      refine xm_next ?_
      refine cm_seq ?_
      refine cm_block ?_
      refine cm_seq ?_
      refine cm_region ?_
      refine lm_ck (fun h36 => ?_)
      refine lm_val 10 (by kernel_rfl) (fun w1 c1 => (op_indexA 1 rfl rfl (by kernel_rfl) ((hr_p0.old c1).addr h36.1 h36.2) hz_p0.2.2 h36.1 h36.2)) ?_
      refine lm_val 11 (by kernel_rfl) (fun w1 c1 => (op_load (v := .int .i64 (ix p0 s33)) rfl (by kernel_rfl) ((hr_p0.old c1).cell0 h36.1 h36.2 rfl))) ?_
      refine lm_val 5 (by kernel_rfl) (fun w1 c1 => (op_assign (v := .int .i64 _) rfl)) ?_
      refine lm_nil ?_
      refine xm_next ?_
      refine cm_seq ?_
      refine cm_region ?_
      refine lm_val 12 (by kernel_rfl) (fun w1 c1 => (op_move (v := .int .i64 _) rfl)) ?_
      refine lm_val 13 (by kernel_rfl) (fun w1 c1 => (op_move (v := .int .i64 _) rfl)) ?_
      refine lm_val 14 (by kernel_rfl) (fun w1 c1 => (op_neq rfl rfl)) ?_
      refine lm_nil ?_
      refine xm_next ?_
      refine cm_cond (by kernel_rfl) rfl (fun h37 => ?_) (fun h37 => ?_)
      · skip
        refine cm_seq ?_
        refine cm_region ?_
        refine lm_val 15 (by kernel_rfl) (fun w1 c1 => (op_move (v := .int .i64 _) rfl)) ?_
        refine lm_val 2 (by kernel_rfl) (fun w1 c1 => (op_assign (v := .int .i64 _) rfl)) ?_
        refine lm_nil ?_
        refine xm_next ?_
        refine cm_ret ?_
        refine xm_inR ?_
        refine xm_thenR ?_
        refine xm_lret ?_
        refine xm_inR ?_
        refine xm_lret ?_
        exact xm_retT rfl (by kernel_rfl) (show _ = Value.int .i64 _ from rfl) fun w1 c1 => ⟨(), rfl, hsub [] (by kernel_rfl) rfl w1 c1⟩
      · skip
        refine cm_skip ?_
        refine xm_inN ?_
        refine xm_next ?_
        refine cm_region ?_
        refine lm_ck (fun h38 => ?_)
        refine lm_val 16 (by kernel_rfl) (fun w1 c1 => (op_add rfl rfl h38)) ?_
        refine lm_val 8 (by kernel_rfl) (fun w1 c1 => (op_move (v := .int .i64 _) rfl)) ?_
        refine lm_nil ?_
        exact xm_lnext () (sub_cons (by kernel_rfl) rfl (sub_cons (by kernel_rfl) rfl (sub_cons (by kernel_rfl) rfl (sub_cons (by kernel_rfl) rfl sub_nil)))) (hsub [] (by kernel_rfl) rfl)
    · skip
      refine cm_exit ?_
      refine xm_thenE ?_
      refine xm_lexit ?_
      refine xm_here ?_
      exact xm_lnext () (sub_cons (by kernel_rfl) rfl sub_nil) (hsub [] (by kernel_rfl) rfl)
  intro s19 u20
  refine cm_seq ?_
  refine cm_region ?_
  refine lm_val 17 (by kernel_rfl) (fun w1 c1 => (op_move (v := .int .i64 _) rfl)) ?_
  refine lm_val 2 (by kernel_rfl) (fun w1 c1 => (op_assign (v := .int .i64 _) rfl)) ?_
  refine lm_nil ?_
  refine xm_next ?_
  refine cm_ret ?_
  exact xm_retT rfl (by kernel_rfl) (show _ = Value.int .i64 _ from rfl) fun w1 c1 => ⟨(), rfl, hsub [] (by kernel_rfl) rfl w1 c1⟩
/-- auction.asked$1 -/
def m_auction_asked_1 (N : Nat) (p0 : AuctionUnit) (p1 : AuctionUnit) : Option (Int) :=
  Option.bind (m_cmp_Compare N p1.price_ p0.price_) fun r3 => Option.bind (m_cmp_Compare N p0.bid_ p1.bid_) fun r5 => Option.bind (m_cmp_Or N ([r3, r5])) fun r13 => some (r13)
set_option maxRecDepth 20000 in
theorem m_auction_asked_1_ok (N : Nat) (w0 : World) (p0 : AuctionUnit) (p1 : AuctionUnit)   (r : Int) (hr : m_auction_asked_1 N p0 p1 = some r) :
    Calls Try.prog 33 [.agg #[.int .i64 p0.price_, .int .i64 p0.bid_], .agg #[.int .i64 p1.price_, .int .i64 p1.bid_]].toArray w0 fun x w1 => ∃ u, x = .returned ((fun (r : Int) (_u : Unit) => .int .i64 r) r u) ∧ Hs w0 ((fun (_r : Int) (_u : Unit) => []) r u) w1 := by
  refine calls_cm (n := 17) (R := fun r x w1 => ∃ u, x = .returned ((fun (r : Int) (_u : Unit) => .int .i64 r) r u) ∧ Hs w0 ((fun (_r : Int) (_u : Unit) => []) r u) w1) Try.func33 rfl rfl (Nat.le_of_ble_eq_true rfl) ?_ r hr
  unfold m_auction_asked_1
  refine cm_seq ?_
  refine cm_region ?_
  refine lm_box 2 [.int .i64 _, .int .i64 _] (by kernel_rfl) rfl ?_
  intro b1
  refine lm_box 3 [.int .i64 _, .int .i64 _] (by kernel_rfl) rfl ?_
  intro b2
  refine lm_val 4 (by kernel_rfl) (fun w1 c1 => (op_assign (v := .int .i64 _) rfl)) ?_
  refine lm_nil ?_
  refine xm_next ?_
  refine cm_seq ?_
  refine cm_bind fun r3 h4 => ?_
  refine cm_bind fun r5 h6 => ?_
  refine cm_bind fun r13 h14 => ?_
  refine cm_held (ξ := Unit) (fun u30 => [(4, .int .i64 r13)]) (fun u30 => []) [blkE b2 54 [.int .i64 p1.price_, .int .i64 p1.bid_], blkE b1 54 [.int .i64 p0.price_, .int .i64 p0.bid_]] 13 (by kernel_rfl) (by rfl) (hsub [0, 1] (by kernel_rfl) (by rfl)) ?_ ?_
  · intro w32 c33
    refine wh_take 0 5 rfl (by kernel_rfl) (by kernel_rfl) (fun w2 c2 => (op_fieldL (m := 0) (k := 0) rfl (by kernel_rfl) rfl)) (hsub [0, 1] (by kernel_rfl) rfl _ c33) ?_
    refine wh_take 1 6 rfl (by kernel_rfl) (by kernel_rfl) (fun w2 c2 => (op_load rfl (by kernel_rfl) (c2.cell 0 (u := .int .i64 _) rfl rfl))) (hsub [0, 1] (by kernel_rfl) rfl _ c33) ?_
    refine wh_take 2 7 rfl (by kernel_rfl) (by kernel_rfl) (fun w2 c2 => (op_fieldL (m := 0) (k := 0) rfl (by kernel_rfl) rfl)) (hsub [0, 1] (by kernel_rfl) rfl _ c33) ?_
    refine wh_take 3 8 rfl (by kernel_rfl) (by kernel_rfl) (fun w2 c2 => (op_load rfl (by kernel_rfl) (c2.cell 1 (u := .int .i64 _) rfl rfl))) (hsub [0, 1] (by kernel_rfl) rfl _ c33) ?_
    refine wh_take 5 10 rfl (by kernel_rfl) (by kernel_rfl) (fun w2 c2 => (op_fieldL (m := 1) (k := 1) rfl (by kernel_rfl) rfl)) (hsub [0, 1] (by kernel_rfl) rfl _ c33) ?_
    refine wh_take 6 11 rfl (by kernel_rfl) (by kernel_rfl) (fun w2 c2 => (op_load rfl (by kernel_rfl) (c2.cell 1 (u := .int .i64 _) rfl rfl))) (hsub [0, 1] (by kernel_rfl) rfl _ c33) ?_
    refine wh_take 7 12 rfl (by kernel_rfl) (by kernel_rfl) (fun w2 c2 => (op_fieldL (m := 1) (k := 1) rfl (by kernel_rfl) rfl)) (hsub [0, 1] (by kernel_rfl) rfl _ c33) ?_
    refine wh_take 8 13 rfl (by kernel_rfl) (by kernel_rfl) (fun w2 c2 => (op_load rfl (by kernel_rfl) (c2.cell 0 (u := .int .i64 _) rfl rfl))) (hsub [0, 1] (by kernel_rfl) rfl _ c33) ?_
    refine wh_ready [4] (by kernel_rfl) rfl ⟨?_, trivial⟩
    refine ws_call 9 rfl (by kernel_rfl) (op_call (by kernel_rfl)) (m_cmp_Compare_ok N _ p1.price_ p0.price_  r3 h4) ?_
    rintro x w35 ⟨u34, rfl, c36⟩
    replace c36 := c33.call c36
    refine ⟨_, rfl, (hsub [0, 1] (by kernel_rfl) rfl _ c36), ?_⟩
    refine wh_ready [9] (by kernel_rfl) rfl ⟨?_, trivial⟩
    refine ws_call 14 rfl (by kernel_rfl) (op_call (by kernel_rfl)) (m_cmp_Compare_ok N _ p0.bid_ p1.bid_  r5 h6) ?_
    rintro x w38 ⟨u37, rfl, c39⟩
    replace c39 := c36.call c39
    refine ⟨_, rfl, (hsub [0, 1] (by kernel_rfl) rfl _ c39), ?_⟩
    refine wh_ready [10] (by kernel_rfl) rfl ⟨?_, trivial⟩
    refine ws_sliceN 15 (el := 3) (sz := 1) (bytes := 8) (enc := encI) [r3, r5] rfl (by kernel_rfl) (by kernel_rfl) encI_len rfl ⟨rfl, rfl, ⟨rfl, rfl, trivial⟩⟩ (by kernel_rfl) (by kernel_rfl) c39 ?_
    intro A40 n41 k42 w43 c44
    refine ⟨(hsub [1, 2] (by kernel_rfl) rfl _ c44), ?_⟩
    refine wh_strong (Hs w0 [ownE 3 1 encI A40 n41 k42 ([r3, r5]), blkE b2 54 [.int .i64 p1.price_, .int .i64 p1.bid_], blkE b1 54 [.int .i64 p0.price_, .int .i64 p0.bid_]]) (fun w2 c2 => hsub [1, 2] (by kernel_rfl) rfl w2 c2) ?_
    refine wh_ready [11] (by kernel_rfl) rfl ⟨?_, trivial⟩
    refine ws_call 16 rfl (by kernel_rfl) (op_call (by kernel_rfl)) (m_cmp_Or_ok N _ ([r3, r5]) A40 n41 k42 (c44.own 0 rfl encI_len) (c44.ownZ 0 rfl) r13 h14) ?_
    rintro x w47 ⟨u46, rfl, c48⟩
    replace c48 := c44.call c48
    refine ⟨_, rfl, (hsub [0, 1, 2] (by kernel_rfl) rfl _ c48), ?_⟩
    refine wh_take 12 4 rfl (by kernel_rfl) (by kernel_rfl) (fun w2 c2 => (op_assign (v := .int .i64 _) rfl)) (hsub [0, 1, 2] (by kernel_rfl) rfl _ c48) ?_
    exact wh_done () (by kernel_rfl) (sub_cons (by kernel_rfl) rfl sub_nil) (hsub [] (by kernel_rfl) rfl _ c48)
  intro u30
  refine xm_next ?_
  refine cm_ret ?_
  exact xm_retT rfl (by kernel_rfl) (show _ = Value.int .i64 _ from rfl) fun w1 c1 => ⟨(), rfl, hsub [] (by kernel_rfl) rfl w1 c1⟩
/-- slices.Equal -/
def m_slices_Equal (N : Nat) (p0 : (List Int)) (p1 : (List Int)) : Option (Bool) :=
  (if (List.length p0 : Int) ≠ (List.length p1 : Int) then
    some (false)
  else
    (andThen
      (loopM (fun (s39 : Int) =>
        (if s39 < (List.length p0 : Int) then
          ck ((0 : Int) ≤ s39 ∧ s39 < (List.length p0 : Int)) (
            ck ((0 : Int) ≤ s39 ∧ s39 < (List.length p1 : Int)) (
              (if (ix p0 s39) ≠ (ix p1 s39) then
                some (.done (.done (false)))
              else
                ck (I64 (s39 + (1 : Int))) (
                  some (.next (s39 + (1 : Int)))))))
        else
          some (.done (.next ())))) N (0 : Int))
    fun (_s23 : Unit) =>
      some (true)))
set_option maxRecDepth 20000 in
theorem m_slices_Equal_ok (N : Nat) (w0 : World) (p0 : (List Int)) (p1 : (List Int)) (A_p0 : Option Addr) (n_p0 c_p0 : Nat) (A_p1 : Option Addr) (n_p1 c_p1 : Nat) (hr_p0 : RdE w0 1 encI A_p0 p0) (hz_p0 : SW A_p0 n_p0 c_p0 (List.length p0)) (hr_p1 : RdE w0 1 encI A_p1 p1) (hz_p1 : SW A_p1 n_p1 c_p1 (List.length p1)) (r : Bool) (hr : m_slices_Equal N p0 p1 = some r) :
    Calls Try.prog 29 [.slice A_p0 n_p0 c_p0, .slice A_p1 n_p1 c_p1].toArray w0 fun x w1 => ∃ u, x = .returned ((fun (r : Bool) (_u : Unit) => .bool r) r u) ∧ Hs w0 ((fun (_r : Bool) (_u : Unit) => []) r u) w1 := by
  refine calls_cm (n := 26) (R := fun r x w1 => ∃ u, x = .returned ((fun (r : Bool) (_u : Unit) => .bool r) r u) ∧ Hs w0 ((fun (_r : Bool) (_u : Unit) => []) r u) w1) Try.func29 rfl rfl (Nat.le_of_ble_eq_true rfl) ?_ r hr
  unfold m_slices_Equal
  refine cm_seq ?_
  refine cm_region ?_
  refine lm_val 4 (by kernel_rfl) (fun w1 c1 => (op_assign (v := .bool false) rfl)) ?_
  refine lm_nil ?_
  refine xm_next ?_
  refine cm_seq ?_
  refine cm_seq ?_
  refine cm_region ?_
  refine lm_val 6 (by kernel_rfl) (fun w1 c1 => (op_move (v := .slice _ _ _) rfl)) ?_
  refine lm_val 7 (by kernel_rfl) (fun w1 c1 => (op_lenN rfl (by kernel_rfl) hz_p0.2.2)) ?_
  refine lm_val 8 (by kernel_rfl) (fun w1 c1 => (op_move (v := .slice _ _ _) rfl)) ?_
  refine lm_val 9 (by kernel_rfl) (fun w1 c1 => (op_lenN rfl (by kernel_rfl) hz_p1.2.2)) ?_
  refine lm_val 10 (by kernel_rfl) (fun w1 c1 => (op_neq rfl rfl)) ?_
  refine lm_nil ?_
  refine xm_next ?_
  refine cm_cond (by kernel_rfl) rfl (fun h1 => ?_) (fun h1 => ?_)
  · skip
    refine cm_seq ?_
    refine cm_region ?_
    refine lm_val 4 (by kernel_rfl) (fun w1 c1 => (op_assign (v := .bool false) rfl)) ?_
    refine lm_nil ?_
    refine xm_next ?_
    refine cm_ret ?_
    refine xm_thenR ?_
    exact xm_retT rfl (by kernel_rfl) (show _ = Value.bool false from rfl) fun w1 c1 => ⟨(), rfl, hsub [] (by kernel_rfl) rfl w1 c1⟩
  · skip
    refine cm_skip ?_
    refine xm_next ?_
    refine cm_join (σ := Unit) (ξ := Unit) (fun s23 u24 => []) (fun s23 u24 => []) ?_ ?_
    · skip
      refine cm_seq ?_
      refine cm_region ?_
      refine lm_val 11 (by kernel_rfl) (fun w1 c1 => (op_move (v := .slice _ _ _) rfl)) ?_
      refine lm_val 12 (by kernel_rfl) (fun w1 c1 => (op_lenN rfl (by kernel_rfl) hz_p0.2.2)) ?_
      refine lm_val 13 (by kernel_rfl) (fun w1 c1 => (op_move (v := .int .i64 _) rfl)) ?_
      refine lm_nil ?_
      refine xm_next ?_
      refine cm_block ?_
      refine cm_loop (σ := Int) (ξ := Unit) (fun s39 u40 => [(0, .slice A_p0 n_p0 c_p0), (1, .slice A_p1 n_p1 c_p1), (12, .int .i64 (List.length p0 : Int)), (13, .int .i64 s39)]) (fun s39 u40 => []) () ?_ ?_ ?_
      · exact (sub_cons (by kernel_rfl) rfl (sub_cons (by kernel_rfl) rfl (sub_cons (by kernel_rfl) rfl (sub_cons (by kernel_rfl) rfl sub_nil))))
      · exact hsub [] (by kernel_rfl) rfl
      intro s39 u40
      refine cm_seq ?_
      refine cm_region ?_
      refine lm_val 14 (by kernel_rfl) (fun w1 c1 => (op_lss rfl rfl)) ?_
      refine lm_nil ?_
      refine xm_next ?_
      refine cm_seq ?_
      refine cm_cond (by kernel_rfl) rfl (fun h41 => ?_) (fun h41 => ?_)
      · skip
        refine cm_skip ?_
        refine xm_next ?_
        refine cm_seq ?_
        refine cm_block ?_
        refine cm_seq ?_
        refine cm_region ?_
        refine lm_val 15 (by kernel_rfl) (fun w1 c1 => (op_move (v := .int .i64 _) rfl)) ?_
        refine lm_val 5 (by kernel_rfl) (fun w1 c1 => (op_assign (v := .int .i64 _) rfl)) ?_
        refine lm_nil ?_
        refine xm_next ?_
        refine cm_seq ?_
        refine cm_ck (fun h42 => ?_)
        refine cm_ck (fun h43 => ?_)
        refine cm_drawn [(24, .bool (decide ((ix p0 s39) ≠ (ix p1 s39))))] (by kernel_rfl) (by kernel_rfl) ?_ ?_
        · skip
          refine wq_val 16 (by kernel_rfl) (fun w1 c1 => (op_move (v := .slice _ _ _) rfl)) ?_
          refine wq_val 17 (by kernel_rfl) (fun w1 c1 => (op_move (v := .int .i64 _) rfl)) ?_
          refine wq_val 18 (by kernel_rfl) (fun w1 c1 => (op_indexA 1 rfl rfl (by kernel_rfl) ((hr_p0.old c1).addr h42.1 h42.2) hz_p0.2.2 h42.1 h42.2)) ?_
          refine wq_val 19 (by kernel_rfl) (fun w1 c1 => (op_load (v := .int .i64 (ix p0 s39)) rfl (by kernel_rfl) ((hr_p0.old c1).cell0 h42.1 h42.2 rfl))) ?_
          refine wq_val 20 (by kernel_rfl) (fun w1 c1 => (op_move (v := .slice _ _ _) rfl)) ?_
          refine wq_val 21 (by kernel_rfl) (fun w1 c1 => (op_move (v := .int .i64 _) rfl)) ?_
          refine wq_val 22 (by kernel_rfl) (fun w1 c1 => (op_indexA 1 rfl rfl (by kernel_rfl) ((hr_p1.old c1).addr h43.1 h43.2) hz_p1.2.2 h43.1 h43.2)) ?_
          refine wq_val 23 (by kernel_rfl) (fun w1 c1 => (op_load (v := .int .i64 (ix p1 s39)) rfl (by kernel_rfl) ((hr_p1.old c1).cell0 h43.1 h43.2 rfl))) ?_
          refine wq_val 24 (by kernel_rfl) (fun w1 c1 => (op_neq rfl rfl)) ?_
          exact leaf_q (sub_out 9 _ rfl (by kernel_rfl) ⟨rfl, trivial⟩)
        refine xm_next ?_
        refine cm_cond (by kernel_rfl) rfl (fun h44 => ?_) (fun h44 => ?_)
        · skip
          refine cm_seq ?_
          refine cm_region ?_
          refine lm_val 4 (by kernel_rfl) (fun w1 c1 => (op_assign (v := .bool false) rfl)) ?_
          refine lm_nil ?_
          refine xm_next ?_
          refine cm_ret ?_
          refine xm_inR ?_
          refine xm_thenR ?_
          refine xm_lret ?_
          refine xm_inR ?_
          refine xm_lret ?_
          exact xm_retT rfl (by kernel_rfl) (show _ = Value.bool false from rfl) fun w1 c1 => ⟨(), rfl, hsub [] (by kernel_rfl) rfl w1 c1⟩
        · skip
          refine cm_skip ?_
          refine xm_inN ?_
          refine xm_next ?_
          refine cm_region ?_
          refine lm_ck (fun h45 => ?_)
          refine lm_val 25 (by kernel_rfl) (fun w1 c1 => (op_add rfl rfl h45)) ?_
          refine lm_val 13 (by kernel_rfl) (fun w1 c1 => (op_move (v := .int .i64 _) rfl)) ?_
          refine lm_nil ?_
          exact xm_lnext () (sub_cons (by kernel_rfl) rfl (sub_cons (by kernel_rfl) rfl (sub_cons (by kernel_rfl) rfl (sub_cons (by kernel_rfl) rfl sub_nil)))) (hsub [] (by kernel_rfl) rfl)
      · skip
        refine cm_exit ?_
        refine xm_thenE ?_
        refine xm_lexit ?_
        refine xm_here ?_
        exact xm_lnext () sub_nil (hsub [] (by kernel_rfl) rfl)
    intro s23 u24
    refine cm_seq ?_
    refine cm_region ?_
    refine lm_val 4 (by kernel_rfl) (fun w1 c1 => (op_assign (v := .bool true) rfl)) ?_
    refine lm_nil ?_
    refine xm_next ?_
    refine cm_ret ?_
    exact xm_retT rfl (by kernel_rfl) (show _ = Value.bool true from rfl) fun w1 c1 => ⟨(), rfl, hsub [] (by kernel_rfl) rfl w1 c1⟩
end Go.Proofs.Ytimmifkdocjljaa
