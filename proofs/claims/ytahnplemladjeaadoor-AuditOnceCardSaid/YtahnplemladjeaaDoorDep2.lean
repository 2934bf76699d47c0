/- The walk of recyclingref59.payout. -/
import Derived.Test.YtahnplemladjeaaDoorDep1
namespace Go.Proofs.YtahnplemladjeaaDoor
open Go.RowKit

theorem pa_at {w : World} {B : Nat} {A : Option Addr} {l : List Pay} {k : Nat} {x : Pay} (h : Rd w B 7 PaR A l) (hx : l[k]? = some x) : I64 x.serial ∧ ∃ b off, A = some ⟨b, off, none⟩ ∧ w.cell? ⟨b, off + k * 7, none⟩ = some (.int .i64 x.serial) ∧ ∀ j u, (paC x)[j]? = some u → w.cell? ⟨b, off + k * 7 + j, none⟩ = some u := by
  obtain ⟨b, off, e, _, cs, _, ⟨rfl, hI⟩, hc⟩ := h.at_ hx
  exact ⟨hI, b, off, e, hc 0 _ rfl, hc⟩
theorem pr_at {w : World} {B : Nat} {A : Option Addr} {l : List Prd} {k : Nat} {x : Prd} (h : Rd w B 5 PrR A l) (hx : l[k]? = some x) : ∃ b off, A = some ⟨b, off, none⟩ ∧ w.cell? ⟨b, off + k * 5 + 2, none⟩ = some (.int .i64 x.dep) := by
  obtain ⟨b, off, e, _, cs, _, rfl, hc⟩ := h.at_ hx
  exact ⟨b, off, e, hc 2 _ rfl⟩
theorem clEq_comm (a b : Clm) : clEq a b = clEq b a := by
  unfold clEq
  rw [Bool.eq_iff_iff]
  simp
  constructor
  · rintro ⟨h1, h2, h3, h4, h5⟩; exact ⟨h1.symm, h2.symm, h3.symm, h4.symm, h5.symm⟩
  · rintro ⟨h1, h2, h3, h4, h5⟩; exact ⟨h1.symm, h2.symm, h3.symm, h4.symm, h5.symm⟩
/-- Beside the findings: the payout's own block. -/
def PSt (w : World) (N : Nat) (bk : List Value) (fs : List Fnd) (v : Value) (g : Nat) (x : Pay) (wr : World) : Prop := RSt w N bk fs v wr ∧ v ≠ .slice none 0 0 ∧ Blk wr g 61 (paC x)
theorem PSt.dr {w wr w' : World} {N : Nat} {bk : List Value} {fs : List Fnd} {v : Value} {g : Nat} {x : Pay} (h : PSt w N bk fs v g x wr) (hd : Dr wr w') : PSt w N bk fs v g x w' :=
  ⟨h.1.dr hd, h.2.1, by obtain ⟨m, rfl⟩ := hd; exact h.2.2⟩
theorem wl_pushN {n : Nat} {Q : Exit → Act → World → Prop} {ops : Array Oper} {rest : List Oper} {e : Env} {ty : TypeId} {ps : String} {af : Array Edge} {gd : Option (Nat × Bool)} {d : Option Tmp} {w wr w1 : World} {N : Nat} {bk : List Value} {fs : List Fnd} {v : Value} {g : Nat} {y : Pay} (dd : Nat) {s x : Operand} (f : Fnd)
    (hc : chk ops e n ⟨d, .call ⟨.builtin .append, #[s, x], #[41, 41]⟩, ty, ps, af, gd⟩ dd true = true) (hs : eev e s = v) (hx : eev e x = .slice (some ⟨wr.heap.size, 0, none⟩) 1 1)
    (hS : PSt w N bk fs v g y wr) (hw1 : w1 = wr.alloc (.cells (fnC f).toArray 49)) (hlen : fs.length < 1000000)
    (next : ∀ v' w', PSt w N bk (fs ++ [f]) v' g y w' → wl Tryd.prog n ops Q rest ((dd, v') :: e) w') : wl Tryd.prog n ops Q (⟨d, .call ⟨.builtin .append, #[s, x], #[41, 41]⟩, ty, ps, af, gd⟩ :: rest) e w1 := by
  subst hw1
  obtain ⟨h1, h2, h3⟩ := hS
  refine wl_append2 (el := 49) (size := 3) (bytes := 24) (base := N) (k := fs.length) (xs := fs.flatMap fnC) (news := fnC f) dd hc (by kernel_rfl) hs (h1.2.2.2.alloc _) hx rfl (fun j u hu => new_cells wr (fnC f) _ j u hu) (fnC_one f) (by unfold maxLen; omega) (by omega) (by simp; have := h1.2.1; omega) fun v' w' ho hg hn => next v' w' ⟨h1.push ho hg, fun e => h2 (hn.1 e).1, (h3.alloc _).grown hg (own_blk_ne h1.2.2.2 h3 (by decide))⟩
theorem firstSer_at {l : List Pay} {x y : Pay} {k : Nat} (h : k ≤ firstSer l x) (hy : l[k]? = some y) (he : y.serial = x.serial) : firstSer l x = k := fi_at h hy (by simp [he])
theorem firstSer_past {l : List Pay} {x y : Pay} {k : Nat} (h : k ≤ firstSer l x) (hy : l[k]? = some y) (he : y.serial ≠ x.serial) : k + 1 ≤ firstSer l x := fi_past h hy (by simp [he])
theorem sale_cases (sl : List Sal) (ser : Int) : (saleOf sl ser = none ∧ idxI (soldB ser) sl = -1) ∨ ∃ s k, saleOf sl ser = some s ∧ sl[k]? = some s ∧ idxI (soldB ser) sl = (k : Nat) := by
  unfold saleOf
  cases h : sl[sl.findIdx (soldB ser)]? with
  | none => exact .inl ⟨rfl, idxI_none (List.getElem?_eq_none_iff.1 h)⟩
  | some s =>
    refine .inr ⟨s, _, rfl, h, ?_⟩
    obtain ⟨hl, rfl⟩ := List.getElem?_eq_some_iff.1 h
    exact (idxI_some (List.getElem?_eq_getElem hl) List.findIdx_getElem).1
theorem unsold_none {sl : List Sal} {np : Nat} {x : Pay} (h : saleOf sl x.serial = none) : unsoldB sl np x = true := by unfold unsoldB; rw [h]
theorem unsold_some {sl : List Sal} {np : Nat} {x : Pay} {s : Sal} (h : saleOf sl x.serial = some s) : unsoldB sl np x = decide (x.prod ≠ s.prod ∨ x.prod < 0 ∨ (np : Int) ≤ x.prod) := by unfold unsoldB; rw [h]
theorem sold_prod {sl : List Sal} {np : Nat} {x : Pay} (h : unsoldB sl np x = false) : 0 ≤ x.prod ∧ x.prod < np := by
  unfold unsoldB at h
  split at h
  · cases h
  · have := of_decide_eq_false h; omega
theorem depOf_at {pl : List Prd} {k : Int} {p : Prd} (h : pl[k.toNat]? = some p) : depOf pl k = p.dep := by unfold depOf; rw [h]
set_option maxRecDepth 10000 in
theorem payout_any (now hh cc as_ em ta gap tr ins bins ba co fe bi po : Value) (prA : Option Addr) (prc : Nat) (pl : List Prd) (saA : Option Addr) (sac : Nat) (sl : List Sal) (clA : Option Addr) (clc : Nat) (cl : List Clm) (paA : Option Addr) (pac : Nat) (l : List Pay) (i : Nat) (x : Pay) (hx : l[i]? = some x) (hll : l.length ≤ 512) (hcl : cl.length ≤ 512) (w : World)
    (hPr : Rd w w.heap.size 5 PrR prA pl) (hSa : Rd w w.heap.size 5 SaR saA sl) (hCl : Rd w w.heap.size 5 ClR clA cl) (hPa : Rd w w.heap.size 7 PaR paA l) :
    Calls Tryd.prog 33 #[.agg #[now, hh, cc, as_, em, ta, gap, tr, ins, bins, ba, .slice prA pl.length prc, .slice saA sl.length sac, .slice clA cl.length clc, .slice paA l.length pac, co, fe, bi, po], .int .i64 i] w fun e w' => ∃ v, e = .returned v ∧ v ≠ .slice none 0 0 ∧ w'.ownsRow w.heap.size 49 3 v (payStep sl pl cl l i x).length ((payStep sl pl cl l i x).flatMap fnC) ∧ Below w.heap.size w w' := by
  obtain ⟨BK, hBK⟩ : ∃ k, k = [now, hh, cc, as_, em, ta, gap, tr, ins, bins, ba, .slice prA pl.length prc, .slice saA sl.length sac, .slice clA cl.length clc, .slice paA l.length pac, co, fe, bi, po] := ⟨_, rfl⟩
  have hcell : ∀ wr : World, Blk wr w.heap.size 40 BK → wr.cell? ⟨w.heap.size, 11, none⟩ = some (.slice prA pl.length prc) ∧ wr.cell? ⟨w.heap.size, 12, none⟩ = some (.slice saA sl.length sac) ∧ wr.cell? ⟨w.heap.size, 13, none⟩ = some (.slice clA cl.length clc) ∧ wr.cell? ⟨w.heap.size, 14, none⟩ = some (.slice paA l.length pac) := fun wr h => by
    rw [hBK] at h
    exact ⟨h.at_ 11 rfl, h.at_ 12 rfl, h.at_ 13 rfl, h.at_ 14 rfl⟩
  have hil : i < l.length := (List.getElem?_eq_some_iff.1 hx).1
  have hA1 := payA_le (sl := sl) (pl := pl) (k := i) (x := x)
  have hB1 := payB_le (l := l) (k := i) (x := x)
  refine calls_wc (n := 111) Tryd.func33 rfl rfl (Nat.le_of_ble_eq_true rfl) ?_
  refine wc_seq ?_
  refine wc_region ?_
  refine wl_new 2 (by kernel_rfl) (op_boxA rfl) ?_
  intro w1 hw1
  refine wl_val 4 (by kernel_rfl) ((op_assign (v := .slice _ _ _) rfl)) ?_
  refine wl_nil ?_
  refine wx_next ?_
  refine wc_seq ?_
  refine wc_region ?_
  refine wl_new 10 (by kernel_rfl) (op_slice0 (el := 49) (size := 3) (bytes := 24) (by kernel_rfl)) ?_
  intro w2 hw2
  have HS : RSt w w.heap.size BK [] (.slice (some ⟨w1.heap.size, 0, none⟩) 0 0) w2 := by
    rw [hw2, hw1, hBK, World.size_alloc]; exact rst_start
  obtain ⟨m11, m12, m13, m14⟩ := hcell w2 HS.2.2.1
  clear hw1 hw2
  obtain ⟨hI, pb, pf, rfl, _, hrow⟩ := pa_at (hPa.below HS.1) hx
  refine wl_val 5 (by kernel_rfl) ((op_assign (v := .slice _ _ _) rfl)) ?_
  refine wl_nil ?_
  refine wx_next ?_
  refine wc_seq ?_
  refine wc_region ?_
  refine wl_val 11 (by kernel_rfl) ((op_fieldL (m := 14) (k := 14) rfl (by kernel_rfl) rfl)) ?_
  refine wl_val 12 (by kernel_rfl) ((op_load rfl (by kernel_rfl) (by assumption))) ?_
  refine wl_val 13 (by kernel_rfl) ((op_move (v := .int .i64 _) rfl)) ?_
  refine wl_val 14 (by kernel_rfl) ((op_index (sz := 7) rfl rfl (by kernel_rfl) (by omega))) ?_
  refine wl_val 15 (by kernel_rfl) ((op_loadR (paC x) rfl (by kernel_rfl) hrow)) ?_
  refine wl_run 6 (by kernel_rfl) (op_alloc (v := .agg #[.int .i64 0, .int .i64 0, .int .i64 0, .int .i64 0, .bool false, .int .i64 0, .int .i64 0]) [.int .i64 0, .int .i64 0, .int .i64 0, .int .i64 0, .bool false, .int .i64 0, .int .i64 0] (by kernel_rfl) rfl) ?_
  refine wl_donew (by kernel_rfl) (op_fill _ (paC x) rfl rfl (by kernel_rfl) rfl rfl) ?_
  intro w3 hw3
  obtain ⟨g, hg⟩ : ∃ g, g = w2.heap.size := ⟨_, rfl⟩
  rw [← hg]
  have HP : PSt w w.heap.size BK [] (.slice (some ⟨w1.heap.size, 0, none⟩) 0 0) g x w3 := by
    rw [hw3, hg]; exact ⟨HS.alloc _, by simp, Blk.new w2 _ _⟩
  clear hw3 hg HS m11 m12 m13 m14 hrow
  obtain ⟨m11, m12, m13, m14⟩ := hcell w3 HP.1.2.2.1
  have p0 := HP.2.2.at_ 0 rfl
  have p5 := HP.2.2.at_ 5 rfl
  have p6 := HP.2.2.at_ 6 rfl
  refine wl_nil ?_
  refine wx_next ?_
  refine wc_seq ?_
  refine wc_region ?_
  refine wl_val 16 (by kernel_rfl) ((op_fieldL (m := 12) (k := 12) rfl (by kernel_rfl) rfl)) ?_
  refine wl_val 17 (by kernel_rfl) ((op_load rfl (by kernel_rfl) (by assumption))) ?_
  refine wl_val 18 (by kernel_rfl) ((op_fieldL (m := 0) (k := 0) rfl (by kernel_rfl) rfl)) ?_
  refine wl_val 19 (by kernel_rfl) ((op_fieldL (m := 0) (k := 0) rfl (by kernel_rfl) rfl)) ?_
  refine wl_val 20 (by kernel_rfl) ((op_load rfl (by kernel_rfl) (by assumption))) ?_
  refine wl_call 21 (by kernel_rfl) (op_call (by kernel_rfl)) (refSold_any saA sac sl x.serial hI _ ((hSa.below HP.1.1).more HP.1.1.size)) ?_
  rintro e w4 ⟨rfl, c4⟩
  have HP4 := HP.dr c4
  clear m11 m12 m13 m14 p0 p5 p6
  clear HP c4
  obtain ⟨m11, m12, m13, m14⟩ := hcell w4 HP4.1.2.2.1
  have p0 := HP4.2.2.at_ 0 rfl
  have p5 := HP4.2.2.at_ 5 rfl
  have p6 := HP4.2.2.at_ 6 rfl
  refine ⟨_, rfl, ?_⟩
  refine wl_val 7 (by kernel_rfl) ((op_assign (v := .int .i64 _) rfl)) ?_
  refine wl_nil ?_
  refine wx_next ?_
  refine wc_seqJ (σ := Value) (fun v => [(1, .int .i64 i), (2, .pointer (some ⟨w.heap.size, 0, none⟩)), (5, v), (6, .pointer (some ⟨g, 0, none⟩))]) (fun v wr => PSt w w.heap.size BK (payA sl pl i x) v g x wr) ?_ ?_
  · skip
    refine wc_seq ?_
    refine wc_drawn (Dr w4) [(47, .bool (unsoldB sl pl.length x))] (by kernel_rfl) (by kernel_rfl) (Dr.one _) ?_ ?_
    · skip
      rcases sale_cases sl x.serial with ⟨hso, hix⟩ | ⟨s, ks, hso, hks, hix⟩
      · rw [hix, unsold_none hso]
        refine wq_val 22 (by kernel_rfl) (fun w1 c1 => (op_move (v := .int .i64 _) rfl)) ?_
        refine wq_val 23 (by kernel_rfl) (fun w1 c1 => op_t (op_lss rfl rfl) (by omega)) ?_
        refine wq_val 24 (by kernel_rfl) (fun w1 c1 => (op_move (v := .bool true) rfl)) ?_
        refine wq_skip 25 (by kernel_rfl) ?_
        refine wq_skip 26 (by kernel_rfl) ?_
        refine wq_skip 27 (by kernel_rfl) ?_
        refine wq_skip 28 (by kernel_rfl) ?_
        refine wq_skip 29 (by kernel_rfl) ?_
        refine wq_skip 30 (by kernel_rfl) ?_
        refine wq_skip 31 (by kernel_rfl) ?_
        refine wq_skip 32 (by kernel_rfl) ?_
        refine wq_skip 33 (by kernel_rfl) ?_
        refine wq_val 34 (by kernel_rfl) (fun w1 c1 => (op_pick_t (v := .bool true) rfl rfl)) ?_
        refine wq_val 35 (by kernel_rfl) (fun w1 c1 => (op_move (v := .bool true) rfl)) ?_
        refine wq_skip 36 (by kernel_rfl) ?_
        refine wq_skip 37 (by kernel_rfl) ?_
        refine wq_skip 38 (by kernel_rfl) ?_
        refine wq_val 39 (by kernel_rfl) (fun w1 c1 => (op_pick_t (v := .bool true) rfl rfl)) ?_
        refine wq_val 40 (by kernel_rfl) (fun w1 c1 => (op_move (v := .bool true) rfl)) ?_
        refine wq_skip 41 (by kernel_rfl) ?_
        refine wq_skip 42 (by kernel_rfl) ?_
        refine wq_skip 43 (by kernel_rfl) ?_
        refine wq_skip 44 (by kernel_rfl) ?_
        refine wq_skip 45 (by kernel_rfl) ?_
        refine wq_skip 46 (by kernel_rfl) ?_
        refine wq_val 47 (by kernel_rfl) (fun w1 c1 => (op_pick_t (v := .bool true) rfl rfl)) ?_
        refine leaf_q (sub_out 26 _ rfl (by kernel_rfl) ?_)
        exact ⟨rfl, trivial⟩
      · rw [hix, unsold_some hso]
        obtain ⟨sb, sf, rfl, s0, _⟩ := sa_at (hSa.below HP4.1.1) hks
        have hkl : ks < sl.length := (List.getElem?_eq_some_iff.1 hks).1
        refine wq_val 22 (by kernel_rfl) (fun w1 c1 => (op_move (v := .int .i64 _) rfl)) ?_
        refine wq_val 23 (by kernel_rfl) (fun w1 c1 => op_f (op_lss rfl rfl) (by omega)) ?_
        refine wq_val 24 (by kernel_rfl) (fun w1 c1 => (op_move (v := .bool false) rfl)) ?_
        refine wq_val 25 (by kernel_rfl) (fun w1 c1 => (op_fieldL (m := 12) (k := 12) rfl (by kernel_rfl) rfl)) ?_
        refine wq_val 26 (by kernel_rfl) (fun w1 c1 => (op_load rfl (by kernel_rfl) ((c1.cell _).trans (by assumption)))) ?_
        refine wq_val 27 (by kernel_rfl) (fun w1 c1 => (op_move (v := .int .i64 _) rfl)) ?_
        refine wq_val 28 (by kernel_rfl) (fun w1 c1 => (op_index (sz := 5) rfl rfl (by kernel_rfl) (by omega))) ?_
        refine wq_val 29 (by kernel_rfl) (fun w1 c1 => (op_field0 rfl (by kernel_rfl))) ?_
        refine wq_val 30 (by kernel_rfl) (fun w1 c1 => (op_load rfl (by kernel_rfl) ((c1.cell _).trans (by assumption)))) ?_
        refine wq_val 31 (by kernel_rfl) (fun w1 c1 => (op_fieldL (m := 5) (k := 5) rfl (by kernel_rfl) rfl)) ?_
        refine wq_val 32 (by kernel_rfl) (fun w1 c1 => (op_load rfl (by kernel_rfl) ((c1.cell _).trans (by assumption)))) ?_
        refine wq_dec 33 (by kernel_rfl) (fun w1 c1 => (op_neq rfl rfl)) (fun h1 => ?_) (fun h1 => ?_)
        · skip
          refine wq_val 34 (by kernel_rfl) (fun w1 c1 => (op_pick_f (v := .bool true) rfl rfl)) ?_
          refine wq_val 35 (by kernel_rfl) (fun w1 c1 => (op_move (v := .bool true) rfl)) ?_
          refine wq_skip 36 (by kernel_rfl) ?_
          refine wq_skip 37 (by kernel_rfl) ?_
          refine wq_skip 38 (by kernel_rfl) ?_
          refine wq_val 39 (by kernel_rfl) (fun w1 c1 => (op_pick_t (v := .bool true) rfl rfl)) ?_
          refine wq_val 40 (by kernel_rfl) (fun w1 c1 => (op_move (v := .bool true) rfl)) ?_
          refine wq_skip 41 (by kernel_rfl) ?_
          refine wq_skip 42 (by kernel_rfl) ?_
          refine wq_skip 43 (by kernel_rfl) ?_
          refine wq_skip 44 (by kernel_rfl) ?_
          refine wq_skip 45 (by kernel_rfl) ?_
          refine wq_skip 46 (by kernel_rfl) ?_
          refine wq_val 47 (by kernel_rfl) (fun w1 c1 => (op_pick_t (v := .bool true) rfl rfl)) ?_
          refine leaf_q (sub_out 26 _ rfl (by kernel_rfl) ?_)
          refine ⟨congrArg Value.bool ?_, trivial⟩; rw [Bool.eq_iff_iff]; simp <;> omega
        · skip
          refine wq_val 34 (by kernel_rfl) (fun w1 c1 => (op_pick_f (v := .bool false) rfl rfl)) ?_
          refine wq_val 35 (by kernel_rfl) (fun w1 c1 => (op_move (v := .bool false) rfl)) ?_
          refine wq_val 36 (by kernel_rfl) (fun w1 c1 => (op_fieldL (m := 5) (k := 5) rfl (by kernel_rfl) rfl)) ?_
          refine wq_val 37 (by kernel_rfl) (fun w1 c1 => (op_load rfl (by kernel_rfl) ((c1.cell _).trans (by assumption)))) ?_
          refine wq_dec 38 (by kernel_rfl) (fun w1 c1 => (op_lss rfl rfl)) (fun h2 => ?_) (fun h2 => ?_)
          · skip
            refine wq_val 39 (by kernel_rfl) (fun w1 c1 => (op_pick_f (v := .bool true) rfl rfl)) ?_
            refine wq_val 40 (by kernel_rfl) (fun w1 c1 => (op_move (v := .bool true) rfl)) ?_
            refine wq_skip 41 (by kernel_rfl) ?_
            refine wq_skip 42 (by kernel_rfl) ?_
            refine wq_skip 43 (by kernel_rfl) ?_
            refine wq_skip 44 (by kernel_rfl) ?_
            refine wq_skip 45 (by kernel_rfl) ?_
            refine wq_skip 46 (by kernel_rfl) ?_
            refine wq_val 47 (by kernel_rfl) (fun w1 c1 => (op_pick_t (v := .bool true) rfl rfl)) ?_
            refine leaf_q (sub_out 26 _ rfl (by kernel_rfl) ?_)
            refine ⟨congrArg Value.bool ?_, trivial⟩; rw [Bool.eq_iff_iff]; simp <;> omega
          · skip
            refine wq_val 39 (by kernel_rfl) (fun w1 c1 => (op_pick_f (v := .bool false) rfl rfl)) ?_
            refine wq_val 40 (by kernel_rfl) (fun w1 c1 => (op_move (v := .bool false) rfl)) ?_
            refine wq_val 41 (by kernel_rfl) (fun w1 c1 => (op_fieldL (m := 5) (k := 5) rfl (by kernel_rfl) rfl)) ?_
            refine wq_val 42 (by kernel_rfl) (fun w1 c1 => (op_load rfl (by kernel_rfl) ((c1.cell _).trans (by assumption)))) ?_
            refine wq_val 43 (by kernel_rfl) (fun w1 c1 => (op_fieldL (m := 11) (k := 11) rfl (by kernel_rfl) rfl)) ?_
            refine wq_val 44 (by kernel_rfl) (fun w1 c1 => (op_load rfl (by kernel_rfl) ((c1.cell _).trans (by assumption)))) ?_
            refine wq_val 45 (by kernel_rfl) (fun w1 c1 => (op_len rfl (by kernel_rfl))) ?_
            refine wq_dec 46 (by kernel_rfl) (fun w1 c1 => (op_geq rfl rfl)) (fun h3 => ?_) (fun h3 => ?_)
            · skip
              refine wq_val 47 (by kernel_rfl) (fun w1 c1 => (op_pick_f (v := .bool true) rfl rfl)) ?_
              refine leaf_q (sub_out 26 _ rfl (by kernel_rfl) ?_)
              refine ⟨congrArg Value.bool ?_, trivial⟩; rw [Bool.eq_iff_iff]; simp <;> omega
            · skip
              refine wq_val 47 (by kernel_rfl) (fun w1 c1 => (op_pick_f (v := .bool false) rfl rfl)) ?_
              refine leaf_q (sub_out 26 _ rfl (by kernel_rfl) ?_)
              refine ⟨congrArg Value.bool ?_, trivial⟩; rw [Bool.eq_iff_iff]; simp <;> omega
    intro w5 c5
    have HP5 := HP4.dr c5
    clear m11 m12 m13 m14 p0 p5 p6
    clear HP4 c5
    obtain ⟨m11, m12, m13, m14⟩ := hcell w5 HP5.1.2.2.1
    have p0 := HP5.2.2.at_ 0 rfl
    have p5 := HP5.2.2.at_ 5 rfl
    have p6 := HP5.2.2.at_ 6 rfl
    refine wx_next ?_
    refine wc_cond (by kernel_rfl) rfl (fun h4 => ?_) (fun h4 => ?_)
    · skip
      have hun := h4
      refine wc_region ?_
      refine wl_val 48 (by kernel_rfl) ((op_move (v := .slice _ _ _) rfl)) ?_
      refine wl_val 49 (by kernel_rfl) ((op_move (v := .int .i64 _) rfl)) ?_
      refine wl_val 50 (by kernel_rfl) ((op_build (z := [.int .i64 0, .int .i64 0, .int .i64 0]) (tab := [(0, 1), (1, 1), (2, 1)]) (cs := [.int .i64 _, .int .i64 _, .int .i64 _]) [(0, [.int .i64 _]), (1, [.int .i64 _])] (by kernel_rfl) (by kernel_rfl) (fillOk_cons rfl rfl rfl (fillOk_cons rfl rfl rfl fillOk_nil)) rfl)) ?_
      refine wl_new 51 (by kernel_rfl) (op_slice1 (el := 49) (size := 3) (bytes := 24) [.int .i64 _, .int .i64 _, .int .i64 _] (by kernel_rfl) rfl rfl rfl) ?_
      intro w7 hw7
      refine wl_pushN 52 ⟨5, i, 0⟩ (by kernel_rfl) rfl rfl HP5 hw7 (by simp) ?_
      intro v8 w8 HPa
      clear hw7
      refine wl_val 5 (by kernel_rfl) ((op_assign (v := _) rfl)) ?_
      refine wl_nil ?_
      first | (refine wx_join _ (sub_cons (by kernel_rfl) rfl (sub_cons (by kernel_rfl) rfl (sub_cons (by kernel_rfl) rfl (sub_cons (by kernel_rfl) rfl sub_nil)))) ?_; unfold payA; rw [if_pos hun]; exact HPa) | (refine wx_join _ (sub_cons (by kernel_rfl) rfl (sub_cons (by kernel_rfl) rfl (sub_cons (by kernel_rfl) rfl (sub_cons (by kernel_rfl) rfl sub_nil)))) ?_; unfold payA; rw [if_neg (by rw [hun]; decide), if_pos hamt]; exact HPb) | (refine wx_join _ (sub_cons (by kernel_rfl) rfl (sub_cons (by kernel_rfl) rfl (sub_cons (by kernel_rfl) rfl (sub_cons (by kernel_rfl) rfl sub_nil)))) ?_; unfold payA; rw [if_neg (by rw [hun]; decide), if_neg (by rw [hamt]; simp)]; exact HP7)
    · skip
      have hun := h4
      obtain ⟨hp1, hp2⟩ := sold_prod hun
      obtain ⟨p, hp⟩ := get_of_lt (show x.prod.toNat < pl.length by omega)
      obtain ⟨qb, qf, rfl, q2⟩ := pr_at (hPr.below HP5.1.1) hp
      have hdep := depOf_at hp
      refine wc_seq ?_
      refine wc_drawn (Dr w5) [(62, .bool (decide (p.dep ≠ x.amt)))] (by kernel_rfl) (by kernel_rfl) (Dr.one _) ?_ ?_
      · skip
        refine wq_val 53 (by kernel_rfl) (fun w1 c1 => (op_fieldL (m := 11) (k := 11) rfl (by kernel_rfl) rfl)) ?_
        refine wq_val 54 (by kernel_rfl) (fun w1 c1 => (op_load rfl (by kernel_rfl) ((c1.cell _).trans (by assumption)))) ?_
        refine wq_val 55 (by kernel_rfl) (fun w1 c1 => (op_fieldL (m := 5) (k := 5) rfl (by kernel_rfl) rfl)) ?_
        refine wq_val 56 (by kernel_rfl) (fun w1 c1 => (op_load rfl (by kernel_rfl) ((c1.cell _).trans (by assumption)))) ?_
        refine wq_val 57 (by kernel_rfl) (fun w1 c1 => (op_indexI (sz := 5) rfl rfl (by kernel_rfl) hp1 hp2)) ?_
        refine wq_val 58 (by kernel_rfl) (fun w1 c1 => (op_field (m := 2) rfl (by kernel_rfl))) ?_
        refine wq_val 59 (by kernel_rfl) (fun w1 c1 => (op_load rfl (by kernel_rfl) ((c1.cell _).trans (by assumption)))) ?_
        refine wq_val 60 (by kernel_rfl) (fun w1 c1 => (op_fieldL (m := 6) (k := 6) rfl (by kernel_rfl) rfl)) ?_
        refine wq_val 61 (by kernel_rfl) (fun w1 c1 => (op_load rfl (by kernel_rfl) ((c1.cell _).trans (by assumption)))) ?_
        refine wq_val 62 (by kernel_rfl) (fun w1 c1 => (op_neq rfl rfl)) ?_
        refine leaf_q (sub_out 10 _ rfl (by kernel_rfl) ?_)
        exact ⟨rfl, trivial⟩
      intro w7 c7
      have HP7 := HP5.dr c7
      clear m11 m12 m13 m14 p0 p5 p6
      clear HP5 q2
      refine wx_next ?_
      refine wc_cond (by kernel_rfl) rfl (fun h5 => ?_) (fun h5 => ?_)
      · skip
        have hamt : x.amt ≠ depOf pl x.prod := by have := of_decide_eq_true h5; rw [hdep]; omega
        refine wc_region ?_
        refine wl_val 63 (by kernel_rfl) ((op_move (v := .slice _ _ _) rfl)) ?_
        refine wl_val 64 (by kernel_rfl) ((op_move (v := .int .i64 _) rfl)) ?_
        refine wl_val 65 (by kernel_rfl) ((op_build (z := [.int .i64 0, .int .i64 0, .int .i64 0]) (tab := [(0, 1), (1, 1), (2, 1)]) (cs := [.int .i64 _, .int .i64 _, .int .i64 _]) [(0, [.int .i64 _]), (1, [.int .i64 _])] (by kernel_rfl) (by kernel_rfl) (fillOk_cons rfl rfl rfl (fillOk_cons rfl rfl rfl fillOk_nil)) rfl)) ?_
        refine wl_new 66 (by kernel_rfl) (op_slice1 (el := 49) (size := 3) (bytes := 24) [.int .i64 _, .int .i64 _, .int .i64 _] (by kernel_rfl) rfl rfl rfl) ?_
        intro w8 hw8
        refine wl_pushN 67 ⟨6, i, 0⟩ (by kernel_rfl) rfl rfl HP7 hw8 (by simp) ?_
        intro v9 w9 HPb
        clear hw8
        refine wl_val 5 (by kernel_rfl) ((op_assign (v := _) rfl)) ?_
        refine wl_nil ?_
        first | (refine wx_join _ (sub_cons (by kernel_rfl) rfl (sub_cons (by kernel_rfl) rfl (sub_cons (by kernel_rfl) rfl (sub_cons (by kernel_rfl) rfl sub_nil)))) ?_; unfold payA; rw [if_pos hun]; exact HPa) | (refine wx_join _ (sub_cons (by kernel_rfl) rfl (sub_cons (by kernel_rfl) rfl (sub_cons (by kernel_rfl) rfl (sub_cons (by kernel_rfl) rfl sub_nil)))) ?_; unfold payA; rw [if_neg (by rw [hun]; decide), if_pos hamt]; exact HPb) | (refine wx_join _ (sub_cons (by kernel_rfl) rfl (sub_cons (by kernel_rfl) rfl (sub_cons (by kernel_rfl) rfl (sub_cons (by kernel_rfl) rfl sub_nil)))) ?_; unfold payA; rw [if_neg (by rw [hun]; decide), if_neg (by rw [hamt]; simp)]; exact HP7)
      · skip
        have hamt : x.amt = depOf pl x.prod := by have := of_decide_eq_false h5; rw [hdep]; omega
        refine wc_skip ?_
        first | (refine wx_join _ (sub_cons (by kernel_rfl) rfl (sub_cons (by kernel_rfl) rfl (sub_cons (by kernel_rfl) rfl (sub_cons (by kernel_rfl) rfl sub_nil)))) ?_; unfold payA; rw [if_pos hun]; exact HPa) | (refine wx_join _ (sub_cons (by kernel_rfl) rfl (sub_cons (by kernel_rfl) rfl (sub_cons (by kernel_rfl) rfl (sub_cons (by kernel_rfl) rfl sub_nil)))) ?_; unfold payA; rw [if_neg (by rw [hun]; decide), if_pos hamt]; exact HPb) | (refine wx_join _ (sub_cons (by kernel_rfl) rfl (sub_cons (by kernel_rfl) rfl (sub_cons (by kernel_rfl) rfl (sub_cons (by kernel_rfl) rfl sub_nil)))) ?_; unfold payA; rw [if_neg (by rw [hun]; decide), if_neg (by rw [hamt]; simp)]; exact HP7)
  intro v w6 HP6
  refine wc_seqJ (σ := Value) (fun v => [(1, .int .i64 i), (2, .pointer (some ⟨w.heap.size, 0, none⟩)), (5, v), (6, .pointer (some ⟨g, 0, none⟩))]) (fun v wr => PSt w w.heap.size BK (payA sl pl i x ++ payB l i x) v g x wr) ?_ ?_
  · skip
    refine wc_seq ?_
    refine wc_region ?_
    refine wl_val 8 (by kernel_rfl) ((op_assign (v := .int .i64 _) rfl)) ?_
    refine wl_nil ?_
    refine wx_next ?_
    refine wc_block ?_
    refine wc_loop (σ := Nat) (fun j => [(1, .int .i64 i), (2, .pointer (some ⟨w.heap.size, 0, none⟩)), (5, v), (6, .pointer (some ⟨g, 0, none⟩)), (8, .int .i64 j)]) (fun j wr => j ≤ i ∧ j ≤ firstSer l x ∧ PSt w w.heap.size BK (payA sl pl i x) v g x wr) (fun j => i - j) 0 ?_ ?_ ?_
    · exact (sub_cons (by kernel_rfl) rfl (sub_cons (by kernel_rfl) rfl (sub_cons (by kernel_rfl) rfl (sub_cons (by kernel_rfl) rfl (sub_cons (by kernel_rfl) rfl sub_nil)))))
    · exact ⟨Nat.zero_le _, Nat.zero_le _, HP6⟩
    intro j w7 hs
    clear HP6
    obtain ⟨hj, hfj, HP7⟩ := hs
    obtain ⟨m11, m12, m13, m14⟩ := hcell w7 HP7.1.2.2.1
    have p0 := HP7.2.2.at_ 0 rfl
    have p5 := HP7.2.2.at_ 5 rfl
    have p6 := HP7.2.2.at_ 6 rfl
    refine wc_seq ?_
    refine wc_seq ?_
    refine wc_region ?_
    refine wl_val 68 (by kernel_rfl) ((op_move (v := .int .i64 _) rfl)) ?_
    refine wl_val 69 (by kernel_rfl) ((op_move (v := .int .i64 _) rfl)) ?_
    refine wl_val 70 (by kernel_rfl) ((op_lss rfl rfl)) ?_
    refine wl_nil ?_
    refine wx_next ?_
    refine wc_cond (by kernel_rfl) rfl (fun h6 => ?_) (fun h6 => ?_)
    · skip
      have hji : j < i := by have := of_decide_eq_true h6; omega
      obtain ⟨y, hy⟩ := get_of_lt (show j < l.length by omega)
      obtain ⟨_, pb2, pf2, epb, y0, _⟩ := pa_at (hPa.below HP7.1.1) hy
      injection epb with epb
      injection epb with e1 e2
      subst e1 e2
      refine wc_skip ?_
      refine wx_next ?_
      refine wc_seq ?_
      refine wc_block ?_
      refine wc_seq ?_
      refine wc_drawn (Dr w7) [(83, .bool (decide (y.serial = x.serial)))] (by kernel_rfl) (by kernel_rfl) (Dr.one _) ?_ ?_
      · skip
        refine wq_val 73 (by kernel_rfl) (fun w1 c1 => (op_fieldL (m := 14) (k := 14) rfl (by kernel_rfl) rfl)) ?_
        refine wq_val 74 (by kernel_rfl) (fun w1 c1 => (op_load rfl (by kernel_rfl) ((c1.cell _).trans (by assumption)))) ?_
        refine wq_val 75 (by kernel_rfl) (fun w1 c1 => (op_move (v := .int .i64 _) rfl)) ?_
        refine wq_val 76 (by kernel_rfl) (fun w1 c1 => (op_index (sz := 7) rfl rfl (by kernel_rfl) (by omega))) ?_
        refine wq_val 77 (by kernel_rfl) (fun w1 c1 => (op_field0 rfl (by kernel_rfl))) ?_
        refine wq_val 78 (by kernel_rfl) (fun w1 c1 => (op_field0 rfl (by kernel_rfl))) ?_
        refine wq_val 79 (by kernel_rfl) (fun w1 c1 => (op_load rfl (by kernel_rfl) ((c1.cell _).trans (by assumption)))) ?_
        refine wq_val 80 (by kernel_rfl) (fun w1 c1 => (op_fieldL (m := 0) (k := 0) rfl (by kernel_rfl) rfl)) ?_
        refine wq_val 81 (by kernel_rfl) (fun w1 c1 => (op_fieldL (m := 0) (k := 0) rfl (by kernel_rfl) rfl)) ?_
        refine wq_val 82 (by kernel_rfl) (fun w1 c1 => (op_load rfl (by kernel_rfl) ((c1.cell _).trans (by assumption)))) ?_
        refine wq_val 83 (by kernel_rfl) (fun w1 c1 => (op_eql rfl rfl)) ?_
        refine leaf_q (sub_out 11 _ rfl (by kernel_rfl) ?_)
        exact ⟨rfl, trivial⟩
      intro w8 c8
      have HP8 := HP7.dr c8
      clear m11 m12 m13 m14 p0 p5 p6
      clear HP7 y0
      refine wx_next ?_
      refine wc_cond (by kernel_rfl) rfl (fun h7 => ?_) (fun h7 => ?_)
      · skip
        have he := of_decide_eq_true h7
        have hse := firstSer_at hfj hy he
        have hsi : firstSer l x < i := by omega
        refine wc_seq ?_
        refine wc_region ?_
        refine wl_val 84 (by kernel_rfl) ((op_move (v := _) rfl)) ?_
        refine wl_val 85 (by kernel_rfl) ((op_move (v := .int .i64 _) rfl)) ?_
        refine wl_val 86 (by kernel_rfl) ((op_move (v := .int .i64 _) rfl)) ?_
        refine wl_val 87 (by kernel_rfl) ((op_build (z := [.int .i64 0, .int .i64 0, .int .i64 0]) (tab := [(0, 1), (1, 1), (2, 1)]) (cs := [.int .i64 _, .int .i64 _, .int .i64 _]) [(0, [.int .i64 _]), (1, [.int .i64 _]), (2, [.int .i64 _])] (by kernel_rfl) (by kernel_rfl) (fillOk_cons rfl rfl rfl (fillOk_cons rfl rfl rfl (fillOk_cons rfl rfl rfl fillOk_nil))) rfl)) ?_
        refine wl_new 88 (by kernel_rfl) (op_slice1 (el := 49) (size := 3) (bytes := 24) [.int .i64 _, .int .i64 _, .int .i64 _] (by kernel_rfl) rfl rfl rfl) ?_
        intro w10 hw10
        refine wl_pushN 89 ⟨7, i, j⟩ (by kernel_rfl) rfl rfl HP8 hw10 (by omega) ?_
        intro v11 w11 HPc
        clear hw10
        refine wl_val 5 (by kernel_rfl) ((op_assign (v := _) rfl)) ?_
        refine wl_nil ?_
        refine wx_next ?_
        refine wc_exit ?_
        refine wx_pass (by decide) ?_
        refine wx_thenE ?_
        refine wx_thenE ?_
        refine wx_here ?_
        first | (refine wx_join _ (sub_cons (by kernel_rfl) rfl (sub_cons (by kernel_rfl) rfl (sub_cons (by kernel_rfl) rfl (sub_cons (by kernel_rfl) rfl sub_nil)))) ?_; unfold payB; rw [if_pos hsi, hse]; exact HPc) | (refine wx_join _ (sub_cons (by kernel_rfl) rfl (sub_cons (by kernel_rfl) rfl (sub_cons (by kernel_rfl) rfl (sub_cons (by kernel_rfl) rfl sub_nil)))) ?_; unfold payB; rw [if_neg hsn, List.append_nil]; exact HP7)
      · skip
        have hne := of_decide_eq_false h7
        refine wc_skip ?_
        refine wx_inN ?_
        refine wx_next ?_
        refine wc_region ?_
        refine wl_val 71 (by kernel_rfl) ((op_move (v := .int .i64 _) rfl)) ?_
        refine wl_val 72 (by kernel_rfl) ((op_add rfl rfl (by omega))) ?_
        refine wl_val 8 (by kernel_rfl) ((op_assign (v := .int .i64 _) rfl)) ?_
        refine wl_nil ?_
        refine wx_round (j + 1) (sub_cons (by kernel_rfl) rfl (sub_cons (by kernel_rfl) rfl (sub_cons (by kernel_rfl) rfl (sub_cons (by kernel_rfl) rfl (sub_cons (by kernel_rfl) rfl sub_nil))))) ⟨hji, firstSer_past hfj hy hne, HP8⟩ (by omega)
    · skip
      have hsn : ¬ firstSer l x < i := by have := of_decide_eq_false h6; omega
      refine wc_exit ?_
      refine wx_thenE ?_
      refine wx_thenE ?_
      refine wx_here ?_
      first | (refine wx_join _ (sub_cons (by kernel_rfl) rfl (sub_cons (by kernel_rfl) rfl (sub_cons (by kernel_rfl) rfl (sub_cons (by kernel_rfl) rfl sub_nil)))) ?_; unfold payB; rw [if_pos hsi, hse]; exact HPc) | (refine wx_join _ (sub_cons (by kernel_rfl) rfl (sub_cons (by kernel_rfl) rfl (sub_cons (by kernel_rfl) rfl (sub_cons (by kernel_rfl) rfl sub_nil)))) ?_; unfold payB; rw [if_neg hsn, List.append_nil]; exact HP7)
  intro v2 w9 HP9
  refine wc_seq ?_
  refine wc_seq ?_
  refine wc_region ?_
  refine wl_val 9 (by kernel_rfl) ((op_assign (v := .int .i64 _) rfl)) ?_
  refine wl_nil ?_
  refine wx_next ?_
  refine wc_block ?_
  refine wc_loop (σ := Nat) (fun k => [(1, .int .i64 i), (2, .pointer (some ⟨w.heap.size, 0, none⟩)), (5, v2), (6, .pointer (some ⟨g, 0, none⟩)), (9, .int .i64 k)]) (fun k wr => k ≤ cl.length ∧ k ≤ cl.findIdx (clEq x.claim) ∧ PSt w w.heap.size BK (payA sl pl i x ++ payB l i x) v2 g x wr) (fun k => cl.length - k) 0 ?_ ?_ ?_
  · exact (sub_cons (by kernel_rfl) rfl (sub_cons (by kernel_rfl) rfl (sub_cons (by kernel_rfl) rfl (sub_cons (by kernel_rfl) rfl (sub_cons (by kernel_rfl) rfl sub_nil)))))
  · exact ⟨Nat.zero_le _, Nat.zero_le _, HP9⟩
  intro k w10 hs
  clear HP9
  obtain ⟨hk, hfk, HP10⟩ := hs
  obtain ⟨m11, m12, m13, m14⟩ := hcell w10 HP10.1.2.2.1
  have p0 := HP10.2.2.at_ 0 rfl
  have p5 := HP10.2.2.at_ 5 rfl
  have p6 := HP10.2.2.at_ 6 rfl
  refine wc_seq ?_
  refine wc_seq ?_
  refine wc_region ?_
  refine wl_val 90 (by kernel_rfl) ((op_move (v := .int .i64 _) rfl)) ?_
  refine wl_val 91 (by kernel_rfl) ((op_fieldL (m := 13) (k := 13) rfl (by kernel_rfl) rfl)) ?_
  refine wl_val 92 (by kernel_rfl) ((op_load rfl (by kernel_rfl) (by assumption))) ?_
  refine wl_val 93 (by kernel_rfl) ((op_len rfl (by kernel_rfl))) ?_
  refine wl_val 94 (by kernel_rfl) ((op_lss rfl rfl)) ?_
  refine wl_nil ?_
  refine wx_next ?_
  refine wc_cond (by kernel_rfl) rfl (fun h8 => ?_) (fun h8 => ?_)
  · skip
    have hkl : k < cl.length := by simpa using h8
    obtain ⟨y, hy⟩ := get_of_lt hkl
    obtain ⟨kb, kf, rfl, hrow⟩ := cl_at (hCl.below HP10.1.1) hy
    refine wc_skip ?_
    refine wx_next ?_
    refine wc_seq ?_
    refine wc_block ?_
    refine wc_seq ?_
    refine wc_drawn (Dr w10) [(104, .bool (clEq x.claim y))] (by kernel_rfl) (by kernel_rfl) (Dr.one _) ?_ ?_
    · skip
      refine wq_val 97 (by kernel_rfl) (fun w1 c1 => (op_fieldL (m := 13) (k := 13) rfl (by kernel_rfl) rfl)) ?_
      refine wq_val 98 (by kernel_rfl) (fun w1 c1 => (op_load rfl (by kernel_rfl) ((c1.cell _).trans (by assumption)))) ?_
      refine wq_val 99 (by kernel_rfl) (fun w1 c1 => (op_move (v := .int .i64 _) rfl)) ?_
      refine wq_val 100 (by kernel_rfl) (fun w1 c1 => (op_index (sz := 5) rfl rfl (by kernel_rfl) (by omega))) ?_
      refine wq_val 101 (by kernel_rfl) (fun w1 c1 => op_loadR (clC y) rfl (by kernel_rfl) (fun j u hu => (c1.cell _).trans (hrow j u hu))) ?_
      refine wq_val 102 (by kernel_rfl) (fun w1 c1 => (op_fieldL (m := 0) (k := 0) rfl (by kernel_rfl) rfl)) ?_
      refine wq_val 103 (by kernel_rfl) (fun w1 c1 => op_loadR (clC x.claim) rfl (by kernel_rfl) (fun j u hu => (c1.cell _).trans (by
        have hj : j < 5 := (List.getElem?_eq_some_iff.1 hu).1
        have : (paC x)[j]? = some u := by
          match j, hj with
          | 0, _ => exact hu
          | 1, _ => exact hu
          | 2, _ => exact hu
          | 3, _ => exact hu
          | 4, _ => exact hu
        simpa using HP10.2.2.at_ j this))) ?_
      refine wq_val 104 (by kernel_rfl) (fun w1 c1 => op_eqClaim y x.claim rfl rfl) ?_
      refine leaf_q (sub_out 8 _ rfl (by kernel_rfl) ?_)
      exact ⟨congrArg Value.bool (clEq_comm _ _), trivial⟩
    intro w11 c11
    have HP11 := HP10.dr c11
    clear m11 m12 m13 m14 p0 p5 p6
    clear HP10 hrow
    refine wx_next ?_
    refine wc_cond (by kernel_rfl) rfl (fun h9 => ?_) (fun h9 => ?_)
    · skip
      have hp := h9
      have hyes : cl.any (clEq x.claim) = true := List.any_eq_true.2 ⟨y, List.mem_of_getElem? hy, hp⟩
      refine wc_seq ?_
      refine wc_region ?_
      refine wl_val 105 (by kernel_rfl) ((op_move (v := _) rfl)) ?_
      refine wl_val 4 (by kernel_rfl) ((op_assign (v := _) rfl)) ?_
      refine wl_nil ?_
      refine wx_next ?_
      refine wc_ret ?_
      refine wx_inR ?_
      refine wx_thenR ?_
      refine wx_thenR ?_
      refine wx_inR ?_
      refine wx_thenR ?_
      refine wx_ret1 rfl (by kernel_rfl) (show _ = _ from rfl) ?_
      unfold payStep payC
      first | (rw [if_pos hyes, List.append_nil]; exact ⟨_, rfl, HP11.2.1, HP11.1.2.2.2, HP11.1.1⟩) | (rw [hno]; exact ⟨_, rfl, HPd.2.1, HPd.1.2.2.2, HPd.1.1⟩)
    · skip
      have hp := h9
      refine wc_skip ?_
      refine wx_inN ?_
      refine wx_next ?_
      refine wc_region ?_
      refine wl_val 95 (by kernel_rfl) ((op_move (v := .int .i64 _) rfl)) ?_
      refine wl_val 96 (by kernel_rfl) ((op_add rfl rfl (by omega))) ?_
      refine wl_val 9 (by kernel_rfl) ((op_assign (v := .int .i64 _) rfl)) ?_
      refine wl_nil ?_
      refine wx_round (k + 1) (sub_cons (by kernel_rfl) rfl (sub_cons (by kernel_rfl) rfl (sub_cons (by kernel_rfl) rfl (sub_cons (by kernel_rfl) rfl (sub_cons (by kernel_rfl) rfl sub_nil))))) ⟨hkl, fi_past hfk hy hp, HP11⟩ (by omega)
  · skip
    have hge : cl.length ≤ k := by have := of_decide_eq_false h8; omega
    have hno : cl.any (clEq x.claim) = false := by
      have h1 := idxI_none (p := clEq x.claim) (l := cl) (by omega)
      cases h2 : cl.any (clEq x.claim) with
      | false => rfl
      | true => unfold idxI at h1; rw [h2] at h1; simp at h1
    refine wc_exit ?_
    refine wx_thenE ?_
    refine wx_thenE ?_
    refine wx_here ?_
    refine wx_next ?_
    refine wc_seq ?_
    refine wc_region ?_
    refine wl_val 106 (by kernel_rfl) ((op_move (v := _) rfl)) ?_
    refine wl_val 107 (by kernel_rfl) ((op_move (v := .int .i64 _) rfl)) ?_
    refine wl_val 108 (by kernel_rfl) ((op_build (z := [.int .i64 0, .int .i64 0, .int .i64 0]) (tab := [(0, 1), (1, 1), (2, 1)]) (cs := [.int .i64 _, .int .i64 _, .int .i64 _]) [(0, [.int .i64 _]), (1, [.int .i64 _])] (by kernel_rfl) (by kernel_rfl) (fillOk_cons rfl rfl rfl (fillOk_cons rfl rfl rfl fillOk_nil)) rfl)) ?_
    refine wl_new 109 (by kernel_rfl) (op_slice1 (el := 49) (size := 3) (bytes := 24) [.int .i64 _, .int .i64 _, .int .i64 _] (by kernel_rfl) rfl rfl rfl) ?_
    intro w12 hw12
    refine wl_pushN 110 ⟨8, i, 0⟩ (by kernel_rfl) rfl rfl HP10 hw12 (by rw [List.length_append]; omega) ?_
    intro v13 w13 HPd
    clear hw12
    refine wl_val 4 (by kernel_rfl) ((op_assign (v := _) rfl)) ?_
    refine wl_nil ?_
    refine wx_next ?_
    refine wc_ret ?_
    refine wx_ret1 rfl (by kernel_rfl) (show _ = _ from rfl) ?_
    unfold payStep payC
    first | (rw [if_pos hyes, List.append_nil]; exact ⟨_, rfl, HP11.2.1, HP11.1.2.2.2, HP11.1.1⟩) | (rw [hno]; exact ⟨_, rfl, HPd.2.1, HPd.1.2.2.2, HPd.1.1⟩)
end Go.Proofs.YtahnplemladjeaaDoor
