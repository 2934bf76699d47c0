/- recyclinglaw59.AuditOnce returns true at all books. -/
import Derived.Test.YtahnplemladjeaaDoorLawKit
import Derived.Test.YtahnplemladjeaaDoorDep3
namespace Go.Proofs.YtahnplemladjeaaDoor
open Go.RowKit

theorem depF_nil {sl : List Sal} {pl : List Prd} {cl : List Clm} {l : List Pay} : ∀ {n : Nat}, depF sl pl cl l n = [] → ∀ k x, k < n → l[k]? = some x → payStep sl pl cl l k x = []
  | 0, _, _, _, hk, _ => absurd hk (Nat.not_lt_zero _)
  | n + 1, h, k, x, hk, hx => by
    unfold depF at h
    obtain ⟨h1, h2⟩ := List.append_eq_nil_iff.1 h
    by_cases e : k = n
    · subst e; rw [hx] at h2; exact h2
    · exact depF_nil h1 k x (by omega) hx
theorem step_nil {sl : List Sal} {pl : List Prd} {cl : List Clm} {l : List Pay} {k : Nat} {x : Pay} (h : payStep sl pl cl l k x = []) : unsoldB sl pl.length x = false ∧ x.amt = depOf pl x.prod ∧ k ≤ firstSer l x := by
  unfold payStep at h
  obtain ⟨h1, h2⟩ := List.append_eq_nil_iff.1 h
  obtain ⟨h3, h4⟩ := List.append_eq_nil_iff.1 h1
  refine ⟨?_, ?_, ?_⟩
  · cases hu : unsoldB sl pl.length x with
    | false => rfl
    | true => rw [payA_un hu] at h3; cases h3
  · cases hu : unsoldB sl pl.length x with
    | true => rw [payA_un hu] at h3; cases h3
    | false =>
      by_cases ha : x.amt = depOf pl x.prod
      · exact ha
      · rw [payA_amt hu ha] at h3; cases h3
  · unfold payB at h4
    split at h4
    · cases h4
    · omega
theorem not_same {l : List Pay} {x y : Pay} {j k : Nat} (h : k ≤ firstSer l x) (hj : j < k) (hy : l[j]? = some y) : ¬ y.serial = x.serial := fun e => by
  have := firstSer_at (l := l) (x := x) (k := j) (by omega) hy e
  omega
set_option maxRecDepth 10000 in
theorem once_finds (bk : List Value) (hlen : bk.length = 19) (fs : List Fnd) (er : Int) (hf : er ≠ 0 ∨ 0 < fs.length) (w : World) (ht : Tab w) (h1 : ∀ w', Below w.heap.size w w' → Finds 21 bk fs er w') :
    Calls Tryd.prog 9 #[.agg bk.toArray] w fun e w' => e = .returned (.bool true) ∧ Below w.heap.size w w' := by
  by_cases he : er = 0
  · skip
    refine calls_wc (n := 72) Tryd.func9 rfl rfl (Nat.le_of_ble_eq_true rfl) ?_
    refine wc_seq ?_
    refine wc_region ?_
    refine wl_new 1 (by kernel_rfl) (op_boxA (cs := bk) rfl) ?_
    intro w1 hw1
    have hb1 : Below w.heap.size w w1 := by rw [hw1]; exact (Below.refl _ _).alloc (Nat.le_refl _) _
    have hbk : Blk w1 w.heap.size 40 bk := by rw [hw1]; exact Blk.new w _ _
    clear hw1
    refine wl_val 2 (by kernel_rfl) ((op_assign (v := .bool false) rfl)) ?_
    refine wl_nil ?_
    refine wx_next ?_
    refine wc_seq ?_
    refine wc_region ?_
    refine wl_val 10 (by kernel_rfl) ((op_loadR bk rfl (by rw [hlen]; kernel_rfl) (fun j u hu => by simpa using hbk.at_ j hu))) ?_
    refine wl_call 11 (by kernel_rfl) (op_call (by kernel_rfl)) (h1 _ hb1) ?_
    rintro e w2 ⟨v, rfl, hown, hb2⟩
    obtain ⟨vA, vc, rfl⟩ := own_slice hown
    have hb12 := hb1.trans (hb2.mono hb1.size)
    refine ⟨_, rfl, ?_⟩
    refine wl_val 9 (by kernel_rfl) ((op_move (v := .tuple _) rfl)) ?_
    refine wl_val 12 (by kernel_rfl) ((op_extract rfl rfl)) ?_
    refine wl_val 13 (by kernel_rfl) ((op_extract rfl rfl)) ?_
    refine wl_val 3 (by kernel_rfl) ((op_assign (v := .slice _ _ _) rfl)) ?_
    refine wl_val 4 (by kernel_rfl) ((op_assign (v := .int .i64 _) rfl)) ?_
    refine wl_nil ?_
    refine wx_next ?_
    refine wc_seq ?_
    refine wc_seq ?_
    refine wc_region ?_
    refine wl_val 14 (by kernel_rfl) ((op_move (v := .int .i64 _) rfl)) ?_
    refine wl_val 15 (by kernel_rfl) (op_f (op_neq rfl rfl) (by simpa using he)) ?_
    refine wl_val 16 (by kernel_rfl) ((op_move (v := .bool false) rfl)) ?_
    refine wl_val 17 (by kernel_rfl) ((op_move (v := .slice _ _ _) rfl)) ?_
    refine wl_val 18 (by kernel_rfl) ((op_len rfl (by kernel_rfl))) ?_
    refine wl_val 19 (by kernel_rfl) (op_t (op_gtr rfl rfl) (by omega)) ?_
    refine wl_val 20 (by kernel_rfl) ((op_pick_f (v := .bool true) rfl rfl)) ?_
    refine wl_nil ?_
    refine wx_next ?_
    refine wc_cond_t (by kernel_rfl) rfl ?_
    refine wc_seq ?_
    refine wc_region ?_
    refine wl_call 21 (by kernel_rfl) (op_call (by kernel_rfl)) (example_any _ (ht.below hb12)) ?_
    rintro e w5 ⟨rfl, hb5⟩
    have hb15 := hb12.trans (hb5.mono hb12.size)
    refine ⟨_, rfl, ?_⟩
    refine wl_val 2 (by kernel_rfl) ((op_assign (v := .bool true) rfl)) ?_
    refine wl_nil ?_
    refine wx_next ?_
    refine wc_ret ?_
    refine wx_thenR ?_
    refine wx_ret1 rfl (by kernel_rfl) (show _ = .bool true from rfl) ?_
    exact ⟨rfl, hb15⟩
  · skip
    refine calls_wc (n := 72) Tryd.func9 rfl rfl (Nat.le_of_ble_eq_true rfl) ?_
    refine wc_seq ?_
    refine wc_region ?_
    refine wl_new 1 (by kernel_rfl) (op_boxA (cs := bk) rfl) ?_
    intro w1 hw1
    have hb1 : Below w.heap.size w w1 := by rw [hw1]; exact (Below.refl _ _).alloc (Nat.le_refl _) _
    have hbk : Blk w1 w.heap.size 40 bk := by rw [hw1]; exact Blk.new w _ _
    clear hw1
    refine wl_val 2 (by kernel_rfl) ((op_assign (v := .bool false) rfl)) ?_
    refine wl_nil ?_
    refine wx_next ?_
    refine wc_seq ?_
    refine wc_region ?_
    refine wl_val 10 (by kernel_rfl) ((op_loadR bk rfl (by rw [hlen]; kernel_rfl) (fun j u hu => by simpa using hbk.at_ j hu))) ?_
    refine wl_call 11 (by kernel_rfl) (op_call (by kernel_rfl)) (h1 _ hb1) ?_
    rintro e w2 ⟨v, rfl, hown, hb2⟩
    obtain ⟨vA, vc, rfl⟩ := own_slice hown
    have hb12 := hb1.trans (hb2.mono hb1.size)
    refine ⟨_, rfl, ?_⟩
    refine wl_val 9 (by kernel_rfl) ((op_move (v := .tuple _) rfl)) ?_
    refine wl_val 12 (by kernel_rfl) ((op_extract rfl rfl)) ?_
    refine wl_val 13 (by kernel_rfl) ((op_extract rfl rfl)) ?_
    refine wl_val 3 (by kernel_rfl) ((op_assign (v := .slice _ _ _) rfl)) ?_
    refine wl_val 4 (by kernel_rfl) ((op_assign (v := .int .i64 _) rfl)) ?_
    refine wl_nil ?_
    refine wx_next ?_
    refine wc_seq ?_
    refine wc_seq ?_
    refine wc_region ?_
    refine wl_val 14 (by kernel_rfl) ((op_move (v := .int .i64 _) rfl)) ?_
    refine wl_val 15 (by kernel_rfl) (op_t (op_neq rfl rfl) he) ?_
    refine wl_val 16 (by kernel_rfl) ((op_move (v := .bool true) rfl)) ?_
    refine wl_skip 17 (by kernel_rfl) ?_
    refine wl_skip 18 (by kernel_rfl) ?_
    refine wl_skip 19 (by kernel_rfl) ?_
    refine wl_val 20 (by kernel_rfl) ((op_pick_t (v := .bool true) rfl rfl)) ?_
    refine wl_nil ?_
    refine wx_next ?_
    refine wc_cond_t (by kernel_rfl) rfl ?_
    refine wc_seq ?_
    refine wc_region ?_
    refine wl_call 21 (by kernel_rfl) (op_call (by kernel_rfl)) (example_any _ (ht.below hb12)) ?_
    rintro e w5 ⟨rfl, hb5⟩
    have hb15 := hb12.trans (hb5.mono hb12.size)
    refine ⟨_, rfl, ?_⟩
    refine wl_val 2 (by kernel_rfl) ((op_assign (v := .bool true) rfl)) ?_
    refine wl_nil ?_
    refine wx_next ?_
    refine wc_ret ?_
    refine wx_thenR ?_
    refine wx_ret1 rfl (by kernel_rfl) (show _ = .bool true from rfl) ?_
    exact ⟨rfl, hb15⟩
set_option maxRecDepth 10000 in
theorem once_none (now hh cc as_ em ta gap tr ins bins ba co fe bi po : Value) (prA : Option Addr) (prc : Nat) (pl : List Prd) (saA : Option Addr) (sac : Nat) (sl : List Sal) (clA : Option Addr) (clc : Nat) (cl : List Clm) (paA : Option Addr) (pac : Nat) (l : List Pay) (hpc : l.length ≤ pac) (hll : l.length ≤ 512) (w : World) (ht : Tab w) (hPr : Rd w w.heap.size 5 PrR prA pl) (hSa : Rd w w.heap.size 5 SaR saA sl) (hCl : Rd w w.heap.size 5 ClR clA cl) (hPa : Rd w w.heap.size 7 PaR paA l)
    (hnil : depF sl pl cl l l.length = []) (h1 : ∀ w', Below w.heap.size w w' → Finds 21 [now, hh, cc, as_, em, ta, gap, tr, ins, bins, ba, .slice prA pl.length prc, .slice saA sl.length sac, .slice clA cl.length clc, .slice paA l.length pac, co, fe, bi, po] [] 0 w') :
    Calls Tryd.prog 9 #[.agg #[now, hh, cc, as_, em, ta, gap, tr, ins, bins, ba, .slice prA pl.length prc, .slice saA sl.length sac, .slice clA cl.length clc, .slice paA l.length pac, co, fe, bi, po]] w fun e w' => e = .returned (.bool true) ∧ Below w.heap.size w w' := by
  obtain ⟨bk, hBK⟩ : ∃ k, k = [now, hh, cc, as_, em, ta, gap, tr, ins, bins, ba, .slice prA pl.length prc, .slice saA sl.length sac, .slice clA cl.length clc, .slice paA l.length pac, co, fe, bi, po] := ⟨_, rfl⟩
  have hlen : bk.length = 19 := by rw [hBK]; rfl
  have hcell : ∀ wr : World, Blk wr w.heap.size 40 bk → wr.cell? ⟨w.heap.size, 11, none⟩ = some (.slice prA pl.length prc) ∧ wr.cell? ⟨w.heap.size, 14, none⟩ = some (.slice paA l.length pac) := fun wr h => by
    rw [hBK] at h
    exact ⟨h.at_ 11 rfl, h.at_ 14 rfl⟩
  rw [← hBK] at h1
  show Calls _ _ #[.agg ([now, hh, cc, as_, em, ta, gap, tr, ins, bins, ba, .slice prA pl.length prc, .slice saA sl.length sac, .slice clA cl.length clc, .slice paA l.length pac, co, fe, bi, po] : List Value).toArray] _ _
  rw [← hBK]
  refine calls_wc (n := 72) Tryd.func9 rfl rfl (Nat.le_of_ble_eq_true rfl) ?_
  refine wc_seq ?_
  refine wc_region ?_
  refine wl_new 1 (by kernel_rfl) (op_boxA (cs := bk) rfl) ?_
  intro w1 hw1
  have hb1 : Below w.heap.size w w1 := by rw [hw1]; exact (Below.refl _ _).alloc (Nat.le_refl _) _
  have hbk : Blk w1 w.heap.size 40 bk := by rw [hw1]; exact Blk.new w _ _
  clear hw1
  refine wl_val 2 (by kernel_rfl) ((op_assign (v := .bool false) rfl)) ?_
  refine wl_nil ?_
  refine wx_next ?_
  refine wc_seq ?_
  refine wc_region ?_
  refine wl_val 10 (by kernel_rfl) ((op_loadR bk rfl (by rw [hlen]; kernel_rfl) (fun j u hu => by simpa using hbk.at_ j hu))) ?_
  refine wl_call 11 (by kernel_rfl) (op_call (by kernel_rfl)) (h1 _ hb1) ?_
  rintro e w2 ⟨v, rfl, hown, hb2⟩
  obtain ⟨vA, vc, rfl⟩ := own_slice hown
  have hb12a := hb1.trans (hb2.mono hb1.size)
  have hbk2 := hbk.below hb2 hbk.lt
  obtain ⟨m11, m14⟩ := hcell w2 hbk2
  clear hown hb1 hb2 hbk
  refine ⟨_, rfl, ?_⟩
  refine wl_val 9 (by kernel_rfl) ((op_move (v := .tuple _) rfl)) ?_
  refine wl_val 12 (by kernel_rfl) ((op_extract rfl rfl)) ?_
  refine wl_val 13 (by kernel_rfl) ((op_extract rfl rfl)) ?_
  refine wl_val 3 (by kernel_rfl) ((op_assign (v := .slice _ _ _) rfl)) ?_
  refine wl_val 4 (by kernel_rfl) ((op_assign (v := .int .i64 _) rfl)) ?_
  refine wl_nil ?_
  refine wx_next ?_
  refine wc_seq ?_
  refine wc_seq ?_
  refine wc_region ?_
  refine wl_val 14 (by kernel_rfl) ((op_move (v := .int .i64 _) rfl)) ?_
  refine wl_val 15 (by kernel_rfl) (op_f (op_neq rfl rfl) (by simp)) ?_
  refine wl_val 16 (by kernel_rfl) ((op_move (v := .bool false) rfl)) ?_
  refine wl_val 17 (by kernel_rfl) ((op_move (v := .slice _ _ _) rfl)) ?_
  refine wl_val 18 (by kernel_rfl) ((op_len rfl (by kernel_rfl))) ?_
  refine wl_val 19 (by kernel_rfl) (op_f (op_gtr rfl rfl) (by simp)) ?_
  refine wl_val 20 (by kernel_rfl) ((op_pick_f (v := .bool false) rfl rfl)) ?_
  refine wl_nil ?_
  refine wx_next ?_
  refine wc_cond_f (by kernel_rfl) rfl ?_
  refine wc_skip ?_
  refine wx_next ?_
  refine wc_seq ?_
  refine wc_seq ?_
  refine wc_region ?_
  refine wl_val 22 (by kernel_rfl) ((op_fieldL (m := 14) (k := 14) rfl (by kernel_rfl) rfl)) ?_
  refine wl_val 23 (by kernel_rfl) ((op_load rfl (by kernel_rfl) (by assumption))) ?_
  refine wl_val 24 (by kernel_rfl) ((op_len rfl (by kernel_rfl))) ?_
  refine wl_val 25 (by kernel_rfl) ((op_move (v := .int .i64 _) rfl)) ?_
  refine wl_nil ?_
  refine wx_next ?_
  refine wc_block ?_
  refine wc_loop (σ := Nat) (fun k => [(1, .pointer (some ⟨w.heap.size, 0, none⟩)), (23, .slice paA l.length pac), (24, .int .i64 l.length), (25, .int .i64 k)]) (fun k wr => k ≤ l.length ∧ Below w.heap.size w wr ∧ Blk wr w.heap.size 40 bk) (fun k => l.length - k) 0 ?_ ?_ ?_
  · exact (sub_cons (by kernel_rfl) rfl (sub_cons (by kernel_rfl) rfl (sub_cons (by kernel_rfl) rfl (sub_cons (by kernel_rfl) rfl sub_nil))))
  · exact ⟨Nat.zero_le _, hb12a, hbk2⟩
  intro k w3 hs
  clear m11 m14 hb12a hbk2
  obtain ⟨hk, hb12, hbk3⟩ := hs
  refine wc_seq ?_
  refine wc_region ?_
  refine wl_val 26 (by kernel_rfl) ((op_lss rfl rfl)) ?_
  refine wl_nil ?_
  refine wx_next ?_
  refine wc_seq ?_
  refine wc_cond (by kernel_rfl) rfl (fun h1 => ?_) (fun h1 => ?_)
  · skip
    have hlt : k < l.length := by simpa using h1
    obtain ⟨x, hx⟩ := get_of_lt hlt
    obtain ⟨_, pb, pf, rfl, _, hrow⟩ := pa_at (hPa.below hb12) hx
    obtain ⟨hun, ham, hfs⟩ := step_nil (depF_nil hnil k x hlt hx)
    obtain ⟨hp1, hp2⟩ := sold_prod hun
    obtain ⟨p, hp⟩ := get_of_lt (show x.prod.toNat < pl.length by omega)
    rw [depOf_at hp] at ham
    refine wc_skip ?_
    refine wx_next ?_
    refine wc_seq ?_
    refine wc_block ?_
    refine wc_seq ?_
    refine wc_region ?_
    refine wl_val 27 (by kernel_rfl) ((op_move (v := .int .i64 _) rfl)) ?_
    refine wl_val 28 (by kernel_rfl) ((op_index (sz := 7) rfl rfl (by kernel_rfl) (by omega))) ?_
    refine wl_val 29 (by kernel_rfl) ((op_loadR (paC x) rfl (by kernel_rfl) hrow)) ?_
    refine wl_run 6 (by kernel_rfl) (op_alloc (v := .agg #[.int .i64 0, .int .i64 0, .int .i64 0, .int .i64 0, .bool false, .int .i64 0, .int .i64 0]) [.int .i64 0, .int .i64 0, .int .i64 0, .int .i64 0, .bool false, .int .i64 0, .int .i64 0] (by kernel_rfl) rfl) ?_
    refine wl_val 5 (by kernel_rfl) ((op_assign (v := .int .i64 _) rfl)) ?_
    refine wl_donew (by kernel_rfl) (op_fill _ (paC x) rfl rfl (by kernel_rfl) rfl rfl) ?_
    intro w4 hw4
    obtain ⟨g, hg⟩ : ∃ g, g = w3.heap.size := ⟨_, rfl⟩
    rw [← hg]
    have hb4 : Below w.heap.size w w4 := by rw [hw4]; exact hb12.alloc hb12.size _
    have hbk4 := hbk3.alloc (.cells (paC x).toArray 61)
    rw [← hw4] at hbk4
    have hbx : Blk w4 g 61 (paC x) := by rw [hw4, hg]; exact Blk.new w3 _ _
    obtain ⟨m11, m14⟩ := hcell w4 hbk4
    have p5 := hbx.at_ 5 rfl
    have p6 := hbx.at_ 6 rfl
    obtain ⟨qb, qf, rfl, q2⟩ := pr_at (hPr.below hb4) hp
    clear hw4 hg hrow
    refine wl_nil ?_
    refine wx_next ?_
    refine wc_seq ?_
    refine wc_seq ?_
    refine wc_drawn (Dr w4) [(52, .bool false)] (by kernel_rfl) (by kernel_rfl) (Dr.one _) ?_ ?_
    · skip
      refine wq_val 30 (by kernel_rfl) (fun w1 c1 => (op_fieldL (m := 5) (k := 5) rfl (by kernel_rfl) rfl)) ?_
      refine wq_val 31 (by kernel_rfl) (fun w1 c1 => (op_load rfl (by kernel_rfl) ((c1.cell _).trans (by assumption)))) ?_
      refine wq_val 32 (by kernel_rfl) (fun w1 c1 => op_f (op_lss rfl rfl) (by omega)) ?_
      refine wq_val 33 (by kernel_rfl) (fun w1 c1 => (op_move (v := .bool false) rfl)) ?_
      refine wq_val 34 (by kernel_rfl) (fun w1 c1 => (op_fieldL (m := 5) (k := 5) rfl (by kernel_rfl) rfl)) ?_
      refine wq_val 35 (by kernel_rfl) (fun w1 c1 => (op_load rfl (by kernel_rfl) ((c1.cell _).trans (by assumption)))) ?_
      refine wq_val 36 (by kernel_rfl) (fun w1 c1 => (op_fieldL (m := 11) (k := 11) rfl (by kernel_rfl) rfl)) ?_
      refine wq_val 37 (by kernel_rfl) (fun w1 c1 => (op_load rfl (by kernel_rfl) ((c1.cell _).trans (by assumption)))) ?_
      refine wq_val 38 (by kernel_rfl) (fun w1 c1 => (op_len rfl (by kernel_rfl))) ?_
      refine wq_val 39 (by kernel_rfl) (fun w1 c1 => op_f (op_geq rfl rfl) (by omega)) ?_
      refine wq_val 40 (by kernel_rfl) (fun w1 c1 => (op_pick_f (v := .bool false) rfl rfl)) ?_
      refine wq_val 41 (by kernel_rfl) (fun w1 c1 => (op_move (v := .bool false) rfl)) ?_
      refine wq_val 42 (by kernel_rfl) (fun w1 c1 => (op_fieldL (m := 6) (k := 6) rfl (by kernel_rfl) rfl)) ?_
      refine wq_val 43 (by kernel_rfl) (fun w1 c1 => (op_load rfl (by kernel_rfl) ((c1.cell _).trans (by assumption)))) ?_
      refine wq_val 44 (by kernel_rfl) (fun w1 c1 => (op_fieldL (m := 11) (k := 11) rfl (by kernel_rfl) rfl)) ?_
      refine wq_val 45 (by kernel_rfl) (fun w1 c1 => (op_load rfl (by kernel_rfl) ((c1.cell _).trans (by assumption)))) ?_
      refine wq_val 46 (by kernel_rfl) (fun w1 c1 => (op_fieldL (m := 5) (k := 5) rfl (by kernel_rfl) rfl)) ?_
      refine wq_val 47 (by kernel_rfl) (fun w1 c1 => (op_load rfl (by kernel_rfl) ((c1.cell _).trans (by assumption)))) ?_
      refine wq_val 48 (by kernel_rfl) (fun w1 c1 => (op_indexI (sz := 5) rfl rfl (by kernel_rfl) hp1 hp2)) ?_
      refine wq_val 49 (by kernel_rfl) (fun w1 c1 => (op_field (m := 2) rfl (by kernel_rfl))) ?_
      refine wq_val 50 (by kernel_rfl) (fun w1 c1 => (op_load rfl (by kernel_rfl) ((c1.cell _).trans (by assumption)))) ?_
      refine wq_val 51 (by kernel_rfl) (fun w1 c1 => op_f (op_neq rfl rfl) (by simp [ham])) ?_
      refine wq_val 52 (by kernel_rfl) (fun w1 c1 => (op_pick_f (v := .bool false) rfl rfl)) ?_
      refine leaf_q (sub_out 23 _ rfl (by kernel_rfl) ?_)
      exact ⟨rfl, trivial⟩
    intro w5 c5
    have hb5 := below_dr hb4 c5
    have hbk5 : Blk w5 w.heap.size 40 bk := by obtain ⟨m, rfl⟩ := c5; exact hbk4
    have hbx5 : Blk w5 g 61 (paC x) := by obtain ⟨m, rfl⟩ := c5; exact hbx
    clear m11 m14 p5 p6 hb4 hbk4 hbx q2 c5
    obtain ⟨m11, m14⟩ := hcell w5 hbk5
    refine wx_next ?_
    refine wc_cond_f (by kernel_rfl) rfl ?_
    refine wc_skip ?_
    refine wx_next ?_
    refine wc_seq ?_
    refine wc_region ?_
    refine wl_val 53 (by kernel_rfl) ((op_fieldL (m := 14) (k := 14) rfl (by kernel_rfl) rfl)) ?_
    refine wl_val 54 (by kernel_rfl) ((op_load rfl (by kernel_rfl) (by assumption))) ?_
    refine wl_val 55 (by kernel_rfl) ((op_move (v := .int .i64 _) rfl)) ?_
    refine wl_val 56 (by kernel_rfl) (op_sliceTo (k := k) (sz := 7) rfl rfl (by kernel_rfl) (by kernel_rfl) (by omega)) ?_
    refine wl_val 57 (by kernel_rfl) ((op_len rfl (by kernel_rfl))) ?_
    refine wl_val 58 (by kernel_rfl) ((op_move (v := .int .i64 _) rfl)) ?_
    refine wl_nil ?_
    refine wx_next ?_
    refine wc_block ?_
    refine wc_loop (σ := Nat) (fun j => [(1, .pointer (some ⟨w.heap.size, 0, none⟩)), (23, .slice (some ⟨pb, pf, none⟩) l.length pac), (24, .int .i64 l.length), (25, .int .i64 k), (6, .pointer (some ⟨g, 0, none⟩)), (56, .slice (some ⟨pb, pf, none⟩) k pac), (57, .int .i64 k), (58, .int .i64 j)]) (fun j wr => j ≤ k ∧ Below w.heap.size w wr ∧ Blk wr w.heap.size 40 bk ∧ Blk wr g 61 (paC x)) (fun j => k - j) 0 ?_ ?_ ?_
    · exact (sub_cons (by kernel_rfl) rfl (sub_cons (by kernel_rfl) rfl (sub_cons (by kernel_rfl) rfl (sub_cons (by kernel_rfl) rfl (sub_cons (by kernel_rfl) rfl (sub_cons (by kernel_rfl) rfl (sub_cons (by kernel_rfl) rfl (sub_cons (by kernel_rfl) rfl sub_nil))))))))
    · exact ⟨Nat.zero_le _, hb5, hbk5, hbx5⟩
    intro j w6 hs
    clear m11 m14 hb5 hbk5 hbx5
    obtain ⟨hj, hb6, hbk6, hbx6⟩ := hs
    refine wc_seq ?_
    refine wc_region ?_
    refine wl_val 59 (by kernel_rfl) ((op_lss rfl rfl)) ?_
    refine wl_nil ?_
    refine wx_next ?_
    refine wc_seq ?_
    refine wc_cond (by kernel_rfl) rfl (fun h2 => ?_) (fun h2 => ?_)
    · skip
      have hjk : j < k := by have := of_decide_eq_true h2; omega
      obtain ⟨y, hy⟩ := get_of_lt (show j < l.length by omega)
      obtain ⟨_, pb2, pf2, epb, _, hrow⟩ := pa_at (hPa.below hb6) hy
      injection epb with epb
      injection epb with e1 e2
      subst e1 e2
      have hns := not_same hfs hjk hy
      refine wc_skip ?_
      refine wx_next ?_
      refine wc_seq ?_
      refine wc_block ?_
      refine wc_seq ?_
      refine wc_region ?_
      refine wl_val 60 (by kernel_rfl) ((op_index (sz := 7) rfl rfl (by kernel_rfl) (by omega))) ?_
      refine wl_val 61 (by kernel_rfl) ((op_loadR (paC y) rfl (by kernel_rfl) hrow)) ?_
      refine wl_run 8 (by kernel_rfl) (op_alloc (v := .agg #[.int .i64 0, .int .i64 0, .int .i64 0, .int .i64 0, .bool false, .int .i64 0, .int .i64 0]) [.int .i64 0, .int .i64 0, .int .i64 0, .int .i64 0, .bool false, .int .i64 0, .int .i64 0] (by kernel_rfl) rfl) ?_
      refine wl_donew (by kernel_rfl) (op_fill _ (paC y) rfl rfl (by kernel_rfl) rfl rfl) ?_
      intro w7 hw7
      have hb7 : Below w.heap.size w w7 := by rw [hw7]; exact hb6.alloc hb6.size _
      have hbk7 := hbk6.alloc (.cells (paC y).toArray 61)
      rw [← hw7] at hbk7
      have hbx7 := hbx6.alloc (.cells (paC y).toArray 61)
      rw [← hw7] at hbx7
      have hby : Blk w7 w6.heap.size 61 (paC y) := by rw [hw7]; exact Blk.new w6 _ _
      have d0 := hbx7.at_ 0 rfl
      have d1 := hby.at_ 0 rfl
      clear hw7
      refine wl_nil ?_
      refine wx_next ?_
      refine wc_seq ?_
      refine wc_region ?_
      refine wl_val 62 (by kernel_rfl) ((op_fieldL (m := 0) (k := 0) rfl (by kernel_rfl) rfl)) ?_
      refine wl_val 63 (by kernel_rfl) ((op_fieldL (m := 0) (k := 0) rfl (by kernel_rfl) rfl)) ?_
      refine wl_val 64 (by kernel_rfl) ((op_load rfl (by kernel_rfl) (by assumption))) ?_
      refine wl_val 65 (by kernel_rfl) ((op_fieldL (m := 0) (k := 0) rfl (by kernel_rfl) rfl)) ?_
      refine wl_val 66 (by kernel_rfl) ((op_fieldL (m := 0) (k := 0) rfl (by kernel_rfl) rfl)) ?_
      refine wl_val 67 (by kernel_rfl) ((op_load rfl (by kernel_rfl) (by assumption))) ?_
      refine wl_val 68 (by kernel_rfl) (op_f (op_eql rfl rfl) hns) ?_
      refine wl_nil ?_
      refine wx_next ?_
      refine wc_cond_f (by kernel_rfl) rfl ?_
      refine wc_skip ?_
      refine wx_inN ?_
      refine wx_next ?_
      refine wc_region ?_
      refine wl_val 69 (by kernel_rfl) ((op_add rfl rfl (by omega))) ?_
      refine wl_val 58 (by kernel_rfl) ((op_move (v := .int .i64 _) rfl)) ?_
      refine wl_nil ?_
      refine wx_round (j + 1) (sub_cons (by kernel_rfl) rfl (sub_cons (by kernel_rfl) rfl (sub_cons (by kernel_rfl) rfl (sub_cons (by kernel_rfl) rfl (sub_cons (by kernel_rfl) rfl (sub_cons (by kernel_rfl) rfl (sub_cons (by kernel_rfl) rfl (sub_cons (by kernel_rfl) rfl sub_nil)))))))) ⟨hjk, hb7, hbk7, hbx7⟩ (by omega)
    · skip
      skip
      refine wc_exit ?_
      refine wx_thenE ?_
      refine wx_thenE ?_
      refine wx_here ?_
      refine wx_inN ?_
      refine wx_next ?_
      refine wc_region ?_
      refine wl_val 70 (by kernel_rfl) ((op_add rfl rfl (by omega))) ?_
      refine wl_val 25 (by kernel_rfl) ((op_move (v := .int .i64 _) rfl)) ?_
      refine wl_nil ?_
      refine wx_round (k + 1) (sub_cons (by kernel_rfl) rfl (sub_cons (by kernel_rfl) rfl (sub_cons (by kernel_rfl) rfl (sub_cons (by kernel_rfl) rfl sub_nil)))) ⟨hlt, hb6, hbk6⟩ (by omega)
  · skip
    skip
    refine wc_exit ?_
    refine wx_thenE ?_
    refine wx_thenE ?_
    refine wx_here ?_
    refine wx_next ?_
    refine wc_seq ?_
    refine wc_region ?_
    refine wl_call 71 (by kernel_rfl) (op_call (by kernel_rfl)) (example_any _ (ht.below hb12)) ?_
    rintro e w5 ⟨rfl, hb5⟩
    have hb15 := hb12.trans (hb5.mono hb12.size)
    refine ⟨_, rfl, ?_⟩
    refine wl_val 2 (by kernel_rfl) ((op_assign (v := .bool true) rfl)) ?_
    refine wl_nil ?_
    refine wx_next ?_
    refine wc_ret ?_
    refine wx_ret1 rfl (by kernel_rfl) (show _ = .bool true from rfl) ?_
    exact ⟨rfl, hb15⟩
theorem lawOnce_any (now hh cc as_ em ta gap tr ins bins ba co fe bi po : Value) (prA : Option Addr) (prc : Nat) (pl : List Prd) (saA : Option Addr) (sac : Nat) (sl : List Sal) (clA : Option Addr) (clc : Nat) (cl : List Clm) (paA : Option Addr) (pac : Nat) (l : List Pay) (hpc : l.length ≤ pac) (w : World) (hPr : Rd w w.heap.size 5 PrR prA pl) (hSa : Rd w w.heap.size 5 SaR saA sl) (hCl : Rd w w.heap.size 5 ClR clA cl) (hPa : Rd w w.heap.size 7 PaR paA l) (ht : Tab w) :
    Calls Tryd.prog 9 #[.agg #[now, hh, cc, as_, em, ta, gap, tr, ins, bins, ba, .slice prA pl.length prc, .slice saA sl.length sac, .slice clA cl.length clc, .slice paA l.length pac, co, fe, bi, po]] w fun e w' => e = .returned (.bool true) ∧ Below w.heap.size w w' := by
  by_cases hfull : 64 < pl.length ∨ 512 < sl.length ∨ 512 < cl.length ∨ 512 < l.length
  · exact once_finds [now, hh, cc, as_, em, ta, gap, tr, ins, bins, ba, .slice prA pl.length prc, .slice saA sl.length sac, .slice clA cl.length clc, .slice paA l.length pac, co, fe, bi, po] rfl [] 8 (.inl (by decide)) w ht (fun w' _ => finds_full (deposits_full _ _ _ _ _ _ _ _ _ _ _ _ _ _ _ _ _ _ _ _ _ _ _ _ _ _ _ w' hfull))
  · have hd : ∀ w', Below w.heap.size w w' → Finds 21 [now, hh, cc, as_, em, ta, gap, tr, ins, bins, ba, .slice prA pl.length prc, .slice saA sl.length sac, .slice clA cl.length clc, .slice paA l.length pac, co, fe, bi, po] (depF sl pl cl l l.length) 0 w' := fun w' hb => deposits_any _ _ _ _ _ _ _ _ _ _ _ _ _ _ _ _ _ pl _ _ sl _ _ cl _ _ l (by omega) (by omega) (by omega) (by omega) w' (rd_up hPr hb) (rd_up hSa hb) (rd_up hCl hb) (rd_up hPa hb)
    by_cases hn : depF sl pl cl l l.length = []
    · exact once_none _ _ _ _ _ _ _ _ _ _ _ _ _ _ _ prA prc pl saA sac sl clA clc cl paA pac l hpc (by omega) w ht hPr hSa hCl hPa hn (by rw [hn] at hd; exact hd)
    · exact once_finds [now, hh, cc, as_, em, ta, gap, tr, ins, bins, ba, .slice prA pl.length prc, .slice saA sl.length sac, .slice clA cl.length clc, .slice paA l.length pac, co, fe, bi, po] rfl (depF sl pl cl l l.length) 0 (.inr (List.length_pos_iff.2 hn)) w ht hd
end Go.Proofs.YtahnplemladjeaaDoor
