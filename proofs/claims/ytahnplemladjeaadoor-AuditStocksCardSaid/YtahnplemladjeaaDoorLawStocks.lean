/- The plain law and the walk of recyclinglaw59.AuditStocks. -/
import Derived.Test.YtahnplemladjeaaDoorExample
import Derived.Test.YtahnplemladjeaaDoorStocks
namespace Go.Proofs.YtahnplemladjeaaDoor
open Go.RowKit Go.Sort

/-- No finding after n transfers: none before, none of them bad, no stock but the first negative. -/
theorem outs_nil {ts : List Tr} : ∀ n, n ≤ ts.length → (outs ts n).2 = [] → (∀ i, (outs ts n).1 i = false) ∧ ∀ k, k ≤ n → ∀ i, 1 ≤ i → i < 7 → 0 ≤ stk (ts.take k) (i * 2 + 1)
  | 0, _, _ => ⟨fun _ => rfl, fun k hk i _ _ => by
      obtain rfl : k = 0 := (by omega)
      simp [stk]⟩
  | n + 1, hn, h => by
    obtain ⟨x, hx⟩ := get_of_lt (xs := ts) (k := n) (by omega)
    rw [outs_succ hx] at h ⊢
    by_cases hb : x.bad = true
    · simp [stepO, hb] at h
    · unfold stepO at h ⊢
      rw [if_neg hb] at h ⊢
      by_cases hc : x.f ≠ 0 ∧ stk (ts.take (n + 1)) (x.f.toNat * 2 + 1) < 0 ∧ (outs ts n).1 x.f.toNat = false
      · rw [if_pos hc] at h; simp at h
      · rw [if_neg hc] at h ⊢
        obtain ⟨h1, h2⟩ := outs_nil n (by omega) h
        refine ⟨h1, fun k hk i hi1 hi2 => ?_⟩
        by_cases hkn : k ≤ n
        · exact h2 k hkn i hi1 hi2
        · obtain rfl : k = n + 1 := by omega
          have g := good_of (x := x) (by simpa using hb)
          have hi0 := h2 n (Nat.le_refl _) i hi1 hi2
          by_cases hif : i = x.f.toNat
          · subst hif
            have hne : x.f ≠ 0 := by omega
            by_cases hneg : stk (ts.take (n + 1)) (x.f.toNat * 2 + 1) < 0
            · exact absurd ⟨hne, hneg, h1 _⟩ hc
            · omega
          · rw [stk_good hx hb]
            by_cases hit : i = x.t.toNat
            · subst hit
              unfold stepTo stepFrom upd
              repeat' split
              all_goals omega
            · unfold stepTo stepFrom upd
              repeat' split
              all_goals omega
theorem mass_nil {ts : List Tr} {ins bins : Int} {bs : List Bale} (h : massF ts ins bins bs = []) {k : Nat} (hk : k ≤ ts.length) {i : Nat} (h1 : 1 ≤ i) (h7 : i < 7) : 0 ≤ stk (ts.take k) (i * 2 + 1) := by
  unfold massF at h
  simp only [List.append_eq_nil_iff] at h
  exact (outs_nil ts.length (Nat.le_refl _) h.1.1).2 k hk i h1 h7

set_option maxRecDepth 100000 in
set_option maxHeartbeats 4000000 in
theorem mass_full (now hh cc as_ em ta gap ins bins pr sa cl pa co fe bi po : Value) (trA : Option Addr) (n c : Nat) (baA : Option Addr) (m cb : Nat) (hfull : 512 < n ∨ 64 < m) (w : World) :
    Calls Tryd.prog 12 #[.agg #[now, hh, cc, as_, em, ta, gap, .slice trA n c, ins, bins, .slice baA m cb, pr, sa, cl, pa, co, fe, bi, po]] w fun e w' => e = .returned (.tuple #[.slice none 0 0, .int .i64 8]) ∧ Below w.heap.size w w' := by
  by_cases h : 512 < n
  · have q1 : decide (512 < (n : Int)) = true := by simp; omega
    go_enter Tryd.func12, Tryd.ntmps12
    go_wp2_with fail
    go_ret2
    exact ⟨rfl, (Below.refl _ _).alloc (Nat.le_refl _) _⟩
  · have q1 : decide (512 < (n : Int)) = false := by simp; omega
    have q2 : decide (64 < (m : Int)) = true := by simp; omega
    go_enter Tryd.func12, Tryd.ntmps12
    go_wp2_with fail
    go_ret2
    exact ⟨rfl, (Below.refl _ _).alloc (Nat.le_refl _) _⟩

theorem BaR.more {w : World} {B B' : Nat} {x : Bale} {cs : List Value} (h : BaR w B x cs) (hB : B ≤ B') : BaR w B' x cs := by
  obtain ⟨A, c, e, h⟩ := h
  exact ⟨A, c, e, h.more hB⟩
theorem Rd.later {α : Type} {w w' : World} {k : Nat} {R : α → List Value → Prop} {A : Option Addr} {xs : List α} (h : Rd w w.heap.size k R A xs) (hb : Below w.heap.size w w') : Rd w' w'.heap.size k R A xs := (h.below hb).more hb.size
theorem bales_later {w w' : World} {A : Option Addr} {bs : List Bale} (h : Rd w w.heap.size 4 (BaR w w.heap.size) A bs) (hb : Below w.heap.size w w') : Rd w' w'.heap.size 4 (BaR w' w'.heap.size) A bs :=
  (h.belowR (fun x cs hx => (BaR.below hb x cs hx).more hb.size) hb).more hb.size
theorem box_at {w w1 : World} {t : TypeId} {cs : List Value} {j : Nat} {u : Value} (hb : Below (w.alloc (.cells cs.toArray t)).heap.size (w.alloc (.cells cs.toArray t)) w1) (hj : cs[j]? = some u) : w1.cell? ⟨w.heap.size, j, none⟩ = some u :=
  (hb.cell (p := ⟨w.heap.size, j, none⟩) (by simp)).trans ((Blk.new w t cs).at_ j hj)
theorem own_len {w : World} {base : Nat} {e : TypeId} {k n : Nat} {v : Value} {xs : List Value} (h : w.ownsRow base e k v n xs) : ∃ A c, v = .slice A n c := by
  rcases h.2 with ⟨rfl, rfl⟩ | ⟨g, cap, cur, rfl, _⟩
  · exact ⟨_, _, rfl⟩
  · exact ⟨_, _, rfl⟩

set_option maxRecDepth 100000 in
set_option maxHeartbeats 8000000 in
theorem lawStocks_any (now hh cc as_ em ta gap pr sa cl pa co fe bi po : Value) (trA : Option Addr) (c : Nat) (ts : List Tr) (baA : Option Addr) (cb : Nat) (bs : List Bale) (ins bins n : Int) (w : World)
    (hT : Rd w w.heap.size 4 TrR trA ts) (hB : Rd w w.heap.size 4 (BaR w w.heap.size) baA bs) (ht : Tab w) :
    Calls Tryd.prog 5 #[.agg #[now, hh, cc, as_, em, ta, gap, .slice trA ts.length c, .int .i64 ins, .int .i64 bins, .slice baA bs.length cb, pr, sa, cl, pa, co, fe, bi, po], .int .i64 n] w fun e w' => e = .returned (.bool true) ∧ Below w.heap.size w w' := by
  obtain ⟨BK, hBK⟩ : ∃ l, l = [now, hh, cc, as_, em, ta, gap, .slice trA ts.length c, .int .i64 ins, .int .i64 bins, .slice baA bs.length cb, pr, sa, cl, pa, co, fe, bi, po] := ⟨_, rfl⟩
  have HBK := Lib.hid hBK; clear hBK
  have HT := Lib.hid ht; clear ht
  have hb0 : ∀ o, Below w.heap.size w (w.alloc o) := fun o => (Below.refl _ w).alloc (Nat.le_refl _) _
  have HB0 := Lib.hid hb0; clear hb0
  have hbk := Blk.new w 40 [now, hh, cc, as_, em, ta, gap, .slice trA ts.length c, .int .i64 ins, .int .i64 bins, .slice baA bs.length cb, pr, sa, cl, pa, co, fe, bi, po]
  have HBL := Lib.hid hbk; clear hbk
  go_enter Tryd.func5, Tryd.ntmps5
  go_wp2_with (refine wpList_load_row rfl 40 (.tmp 2) rfl w.heap.size rfl 40 _ (0, 0) _ HBL.out Tryd.underlying40 rfl (by kernel_rfl) ?_)
  clear HBL
  by_cases hfull : 512 < ts.length ∨ 64 < bs.length
  · skip
    as_aux_lemma =>
      refine (mass_full _ _ _ _ _ _ _ _ _ _ _ _ _ _ _ _ _ _ _ _ _ _ _ hfull _).mono ?_
      rintro e w1 ⟨rfl, hb1⟩
      have HB1 := Lib.hid ((HB0.out _).trans (hb1.mono (by simp)))
      clear hb1 hfull
      go_wp2_with fail
      refine (example_any _ (HT.out.below HB1.out)).mono ?_
      rintro e w2 ⟨rfl, hb2⟩
      have HB2 := Lib.hid (HB1.out.trans (hb2.mono HB1.out.size))
      clear hb2
      go_wp2_with fail
      go_ret
      exact ⟨rfl, HB2.out⟩
  · refine (mass_any _ _ _ _ _ _ _ _ _ _ _ _ _ _ _ _ _ ts (by omega) _ _ bs (by omega) ins bins _ (hT.later (HB0.out _)) (bales_later hB (HB0.out _))).mono ?_
    rintro e w1 ⟨v, rfl, hown, hb1⟩
    obtain ⟨vA, vc, rfl⟩ := own_len hown
    obtain ⟨fs, hfs⟩ : ∃ fs, fs = massF ts ins bins bs := ⟨_, rfl⟩
    have hfl : fs.length ≤ 600 := by rw [hfs]; have := massF_le ts ins bins bs; omega
    rw [← hfs]
    have HF := Lib.hid hfs; clear hfs
    have HB1 := Lib.hid ((HB0.out _).trans (hb1.mono (by simp)))
    have HT1 := Lib.hid (HT.out.below HB1.out)
    have m7 := box_at (j := 7) hb1 rfl
    clear hb1 hown
    by_cases h0 : fs = []
    · skip
      as_aux_lemma =>
        subst h0
        have hnil := HF.out.symm
        have HN := Lib.hid hnil; clear hnil
        go_wp2_with fail
        as_aux_lemma =>
          refine (stocks_at trA c ts (max 0 (min n ts.length)) (by omega) (by omega) (by omega) _ (hT.later HB1.out)).mono ?_
          rintro e w2 ⟨g, rfl, hg0, hbg, hb2⟩
          have hq : ∀ i, 1 ≤ i → i < 7 → 0 ≤ stk (ts.take (max 0 (min n ts.length)).toNat) (i * 2 + 1) := fun i h1 h7 => mass_nil HN.out (by omega) h1 h7
          have HQ := Lib.hid hq; clear hq
          generalize stk (ts.take (max 0 (min n ts.length)).toNat) = S at hbg HQ
          have HG := Lib.hid hbg; clear hbg
          have HB2 := Lib.hid (HB1.out.trans (hb2.mono HB1.out.size))
          have HT2 := Lib.hid (HT1.out.below hb2)
          clear hb2 m7
          go_wp2_with fail
          go_loop [33] (fun i => ∃ k : Nat, k ≤ 7 ∧ i = .int .i64 k) (fun i => 7 - (intOf i).toNat)
          case atStart => exact ⟨0, by omega, rfl⟩
          case round =>
            obtain ⟨k, hk, rfl⟩ := hrel
            by_cases hlt : k < 7
            · by_cases hk0 : k = 0
              · subst hk0
                go_wp2_with fail
                go_round
                case rel => exact ⟨1, by omega, by go_num⟩
                case measure => simp [intOf]
              · have z1 := HQ.out k (by omega) hlt
                have z2 : w2.cell? ⟨g, k * 2 + 1, none⟩ = some (.int .i64 (S (k * 2 + 1))) := HG.out.at_ _ (stC_get S (by omega))
                have z3 : ((k : Int) != 0) = true := by simp; omega
                have z4 : decide (S (k * 2 + 1) < 0) = false := by simp; omega
                go_wp2_with fail
                go_round
                case rel => exact ⟨k + 1, by omega, by go_num⟩
                case measure => simp [intOf]; omega
            · obtain rfl : k = 7 := by omega
              go_wp2_with fail
              refine (example_any _ HT2.out).mono ?_
              rintro e w3 ⟨rfl, hb3⟩
              have HB3 := Lib.hid (HB2.out.trans (hb3.mono HB2.out.size))
              clear hb3
              go_wp2_with fail
              go_ret
              exact ⟨rfl, HB3.out⟩
    · skip
      as_aux_lemma =>
        have hpos : 0 < fs.length := List.length_pos_iff.2 h0
        clear h0
        go_wp2_with fail
        refine (example_any _ HT1.out).mono ?_
        rintro e w2 ⟨rfl, hb2⟩
        have HB2 := Lib.hid (HB1.out.trans (hb2.mono HB1.out.size))
        clear hb2
        go_wp2_with fail
        go_ret
        exact ⟨rfl, HB2.out⟩
end Go.Proofs.YtahnplemladjeaaDoor
