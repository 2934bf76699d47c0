/- A higher bid does not win less; nobody gains by another price than the worth; who is served. -/
import Derived.Test.YtimmifkdocjljaaAucP6
import Derived.Test.YtimmifkdocjljaaAucLRaises
import Derived.Test.YtimmifkdocjljaaAucLTruthful
import Derived.Test.YtimmifkdocjljaaAucLServes
namespace Go.Proofs.Ytimmifkdocjljaa
open Go.Sort

theorem ltge (a b : Int) : a < b ∨ b ≤ a := by omega
theorem tmod_nat {p : Int} {n : Nat} (h0 : 0 ≤ p) (hn : 0 < n) : ∃ i : Nat, i < n ∧ Int.tmod p (n : Int) = (i : Int) := by
  obtain ⟨a, rfl⟩ := Int.eq_ofNat_of_zero_le h0
  exact ⟨a % n, Nat.mod_lt _ hn, rfl⟩
theorem ix_set {α : Type} [Inhabited α] {l : List α} {i j : Nat} (hj : j < l.length) (x : α) : ix (l.set i x) (j : Int) = if j = i then x else ix l (j : Int) := by
  rw [ix_nat (by simpa using hj), ix_nat hj, List.getElem_set]
  by_cases h : i = j
  · rw [if_pos h, if_pos h.symm]
  · rw [if_neg h, if_neg (fun e => h e.symm)]
theorem lawRaises_eq {N : Nat} (hN : 7000 < N) (l : List ApiBid) (w : Int) (x : Arr3Int) (hw : 0 ≤ w ∧ w ≤ 255) : m_recyclinglaw51_AuctionRaises N l w x = some true := by
  unfold m_recyclinglaw51_AuctionRaises
  rw [awake_eq hN]
  simp only [Option.bind_some]
  split
  · rfl
  · rename_i h0
    simp only [Bool.or_eq_true, decide_eq_true_eq, not_or] at h0
    obtain ⟨i, hi, hm⟩ := tmod_nat (n := l.length) hw.1 (by omega)
    rw [hm]
    simp only [List.nil_append, Int.toNat_natCast]
    rw [ck_true ⟨by omega, by omega⟩, ck_true ⟨by omega, by omega, by omega⟩, ck_true (by simp; omega), ck_true ⟨by omega, by omega⟩, progRun_eq hN, progRun_eq hN]
    simp only [Option.bind_some]
    rw [ck_true (fun _ => ⟨by omega, by omega⟩)]
    split
    · rfl
    · rename_i h1
      simp only [Bool.or_eq_true, decide_eq_true_eq, not_or, Decidable.not_not] at h1
      generalize hL : l.set i ⟨(ix l (i : Int)).Bidder, x.E0, (ix l (i : Int)).Count⟩ = L at *
      have hlen : L.length = l.length := by rw [← hL]; simp
      obtain ⟨hc1, _, e1⟩ := runAll_ok h1.1.1
      obtain ⟨_, _, e2⟩ := runAll_ok h1.1.2
      rw [e1, e2]
      simp only [won_len, hlen]
      have hix : ∀ j, j < l.length → ix L (j : Int) = if j = i then ⟨(ix l (i : Int)).Bidder, x.E0, (ix l (i : Int)).Count⟩ else ix l (j : Int) := fun j hj => by rw [← hL]; exact ix_set hj _
      have hLi := hix i hi
      rw [if_pos rfl] at hLi
      have hle : ix (runF l x.E1 x.E2).Won (i : Int) ≤ ix (runF L x.E1 x.E2).Won (i : Int) := by
        rw [won_eq hi, won_eq (by omega), hLi]
        have hB : cB L x.E2 x.E0 i ≤ cB l x.E2 (ix l (i : Int)).Price i := by
          unfold cB
          rw [hlen]
          refine sumN_mono fun j hj => ?_
          rw [hix j hj]
          by_cases hji : j = i
          · subst hji
            rw [if_pos rfl, if_neg (by simp)]
            exact Nat.zero_le _
          · rw [if_neg hji]
            split
            · rename_i hq
              rw [if_pos ⟨hq.1, by omega⟩]
              exact Nat.le_refl _
            · exact Nat.zero_le _
        have hC : cC l x.E2 i ≤ cC L x.E2 i := by
          unfold cC
          rw [hLi]
          split
          · rw [if_pos (by simp only; omega)]
            exact Nat.le_refl _
          · exact Nat.zero_le _
        simp only
        omega
      rw [ck_true (fun _ => ⟨by omega, by omega⟩), ck_true (fun _ => ⟨by omega, by omega⟩)]
      simp [callIf, hle]
theorem won_le {l : List ApiBid} {i : Nat} (hi : i < l.length) (hB : BidsOk l) (supply res : Int) : 0 ≤ ix (runF l supply res).Won (i : Int) ∧ ix (runF l supply res).Won (i : Int) ≤ (ix l (i : Int)).Count := by
  have hc := bidErr_none (hB.at_ hi)
  rw [won_eq hi]
  have : cC l res i ≤ (ix l (i : Int)).Count.toNat := by unfold cC; split <;> omega
  omega
theorem price_le {l : List ApiBid} (hB : BidsOk l) {supply res : Int} (hr : res ≤ 1000000) : (runF l supply res).Price ≤ 1000000 := by
  unfold runF
  simp only
  split
  · rename_i u hu
    obtain ⟨b, hb, _, h, _⟩ := sorted_mem (List.mem_of_getElem? hu)
    have := bidErr_none (hB.at_ hb)
    omega
  · exact hr
theorem outErr_run {l : List ApiBid} (hB : BidsOk l) {supply res : Int} (h0 : 0 ≤ res) (hr : res ≤ 1000000) : outErr (runF l supply res) = 0 := by
  unfold outErr
  have h1 := price_ge l supply res
  have h2 := price_le hB (supply := supply) hr
  rw [won_len, if_neg (by have := hB.1; omega), if_neg]
  simp only [Bool.or_eq_true, decide_eq_true_eq, List.any_eq_true, not_or, not_exists, not_and]
  refine ⟨⟨by omega, by omega⟩, fun x hx => ?_⟩
  obtain ⟨i, hi, rfl⟩ := List.mem_iff_getElem.1 hx
  have hi' : i < l.length := by rwa [won_len] at hi
  have h3 := won_le hi' hB supply res
  have hc := bidErr_none (hB.at_ hi')
  rw [ix_nat hi] at h3
  simp only [wonBad, Bool.or_eq_true, decide_eq_true_eq]
  omega
/-! ### The worth is the best bid -/
def oA (l : List ApiBid) (i : Nat) (res t : Int) : Nat := sumN l.length fun (j : Nat) => if j = i then 0 else if res ≤ (ix l (j : Int)).Price ∧ t ≤ (ix l (j : Int)).Price then (ix l (j : Int)).Count.toNat else 0
def oB (l : List ApiBid) (i : Nat) (res p : Int) : Nat := sumN l.length fun (j : Nat) => if j = i then 0 else if res ≤ (ix l (j : Int)).Price ∧ (p < (ix l (j : Int)).Price ∨ (ix l (j : Int)).Price = p ∧ j < i) then (ix l (j : Int)).Count.toNat else 0
def setOne (l : List ApiBid) (i : Nat) (p : Int) : List ApiBid := l.set i ⟨(ix l (i : Int)).Bidder, p, 1⟩
theorem one_len (l : List ApiBid) (i : Nat) (p : Int) : (setOne l i p).length = l.length := by simp [setOne]
theorem one_ix {l : List ApiBid} {i j : Nat} (hj : j < l.length) (p : Int) : ix (setOne l i p) (j : Int) = if j = i then ⟨(ix l (i : Int)).Bidder, p, 1⟩ else ix l (j : Int) := ix_set hj _
theorem one_A {l : List ApiBid} {i : Nat} (hi : i < l.length) (res p t : Int) : cA (setOne l i p) res t = oA l i res t + if res ≤ p ∧ t ≤ p then 1 else 0 := by
  unfold cA oA
  rw [one_len, sumN_at hi, one_ix hi, if_pos rfl]
  congr 1
  refine sumN_congr fun j hj => ?_
  by_cases h : j = i
  · rw [if_pos h, if_pos h]
  · rw [if_neg h, if_neg h, one_ix hj, if_neg h]
theorem one_B {l : List ApiBid} {i : Nat} (hi : i < l.length) (res p : Int) : cB (setOne l i p) res p i = oB l i res p := by
  unfold cB oB
  rw [one_len]
  refine sumN_congr fun j hj => ?_
  rw [one_ix hj]
  by_cases h : j = i
  · subst h
    rw [if_pos rfl, if_pos rfl, if_neg (by simp)]
  · rw [if_neg h, if_neg h]
theorem oA_le_oB {l : List ApiBid} {i : Nat} {res t p : Int} (h : p < t) : oA l i res t ≤ oB l i res p := sumN_mono fun j _ => by
  split
  · exact Nat.le_refl _
  · split
    · rename_i hq
      rw [if_pos ⟨hq.1, by omega⟩]
      exact Nat.le_refl _
    · exact Nat.zero_le _
theorem oB_le_oA (l : List ApiBid) (i : Nat) (res p : Int) : oB l i res p ≤ oA l i res p := sumN_mono fun j _ => by
  split
  · exact Nat.le_refl _
  · split
    · rename_i hq
      rw [if_pos ⟨hq.1, by omega⟩]
      exact Nat.le_refl _
    · exact Nat.zero_le _
theorem one_won {l : List ApiBid} {i : Nat} (hi : i < l.length) (k res p : Int) : ix (runF (setOne l i p) k res).Won (i : Int) = if res ≤ p ∧ oB l i res p < k.toNat then 1 else 0 := by
  have h1 := one_ix hi (i := i) p
  rw [if_pos rfl] at h1
  have hC : cC (setOne l i p) res i = if res ≤ p then 1 else 0 := by
    unfold cC
    rw [h1]
    rfl
  rw [won_eq (by rw [one_len]; exact hi), h1]
  simp only
  rw [one_B hi, hC]
  by_cases hr : res ≤ p
  · by_cases hb : oB l i res p < k.toNat
    · rw [if_pos hr, if_pos ⟨hr, hb⟩]; omega
    · rw [if_pos hr, if_neg (fun h => hb h.2)]; omega
  · rw [if_neg hr, if_neg (fun h => hr h.1)]; omega
theorem one_price {l : List ApiBid} {i : Nat} (hi : i < l.length) (k res p t : Int) (ht : res < t) : t ≤ (runF (setOne l i p) k res).Price ↔ k.toNat < oA l i res t + if res ≤ p ∧ t ≤ p then 1 else 0 := by
  rw [price_iff _ _ _ _ ht, one_A hi]
/-- Who wins pays at most its bid. -/
theorem one_pays {l : List ApiBid} {i : Nat} (hi : i < l.length) {k res p : Int} (hr : res ≤ p) (hb : oB l i res p < k.toNat) : (runF (setOne l i p) k res).Price ≤ p := by
  rcases ltge p (runF (setOne l i p) k res).Price with h | h
  · have h1 := (one_price hi k res p _ (by omega)).1 (Int.le_refl _)
    rw [if_neg (by omega)] at h1
    have h2 := oA_le_oB (l := l) (i := i) (res := res) h
    omega
  · exact h
theorem one_same {l : List ApiBid} {i : Nat} (hi : i < l.length) {k res p q : Int} (hp : res ≤ p) (hbp : oB l i res p < k.toNat) (hq : res ≤ q) (hbq : oB l i res q < k.toNat) : (runF (setOne l i p) k res).Price ≤ (runF (setOne l i q) k res).Price := by
  have g1 := price_ge (setOne l i p) k res
  have g2 := price_ge (setOne l i q) k res
  rcases ltge res (runF (setOne l i p) k res).Price with h | h
  · have h1 := (one_price hi k res p _ h).1 (Int.le_refl _)
    have h2 := one_pays hi hp hbp
    rw [if_pos ⟨hp, h2⟩] at h1
    refine (one_price hi k res q _ h).2 ?_
    rcases ltge q (runF (setOne l i p) k res).Price with h3 | h3
    · have h4 := oA_le_oB (l := l) (i := i) (res := res) h3
      omega
    · rw [if_pos ⟨hq, h3⟩]; exact h1
  · omega
theorem one_truth {l : List ApiBid} {i : Nat} (hi : i < l.length) (k res w p : Int) :
    ix (runF (setOne l i p) k res).Won (i : Int) * (w - (runF (setOne l i p) k res).Price) ≤ ix (runF (setOne l i w) k res).Won (i : Int) * (w - (runF (setOne l i w) k res).Price) ∧ 0 ≤ ix (runF (setOne l i w) k res).Won (i : Int) * (w - (runF (setOne l i w) k res).Price) := by
  rw [one_won hi, one_won hi]
  by_cases hw : res ≤ w ∧ oB l i res w < k.toNat
  · have h1 := one_pays hi hw.1 hw.2
    rw [if_pos hw]
    by_cases hp : res ≤ p ∧ oB l i res p < k.toNat
    · have h2 := one_same hi hw.1 hw.2 hp.1 hp.2
      rw [if_pos hp]
      omega
    · rw [if_neg hp]
      omega
  · rw [if_neg hw]
    by_cases hp : res ≤ p ∧ oB l i res p < k.toNat
    · have g := price_ge (setOne l i p) k res
      have h2 : w ≤ (runF (setOne l i p) k res).Price := by
        rcases ltge res w with h | h
        · refine (one_price hi k res p _ h).2 ?_
          have h3 : ¬ oB l i res w < k.toNat := fun hh => hw ⟨by omega, hh⟩
          have h4 := oB_le_oA l i res w
          rcases ltge p w with h5 | h5
          · have h6 := oA_le_oB (l := l) (i := i) (res := res) h5
            omega
          · rw [if_pos ⟨hp.1, h5⟩]; omega
        · omega
      rw [if_pos hp]
      omega
    · rw [if_neg hp]
      omega
theorem lawTruthful_eq {N : Nat} (hN : 7000 < N) (l : List ApiBid) (w : Int) (x : Arr4Int) (hw : 0 ≤ w ∧ w ≤ 255) : m_recyclinglaw51_AuctionTruthful N l w x = some true := by
  unfold m_recyclinglaw51_AuctionTruthful
  rw [awake_eq hN]
  simp only [Option.bind_some]
  split
  · rfl
  · rename_i h0
    simp only [Bool.or_eq_true, decide_eq_true_eq, not_or] at h0
    obtain ⟨i, hi, hm⟩ := tmod_nat (n := l.length) hw.1 (by omega)
    rw [hm]
    simp only [List.nil_append, Int.toNat_natCast, List.set_set, List.length_set]
    have e1 := ix_set hi (i := i) (⟨(ix l (i : Int)).Bidder, (ix l (i : Int)).Price, 1⟩ : ApiBid)
    rw [if_pos rfl] at e1
    have e2 := ix_set hi (i := i) (⟨(ix l (i : Int)).Bidder, x.E0, 1⟩ : ApiBid)
    rw [if_pos rfl] at e2
    simp only [e1, e2]
    rw [ck_true ⟨by omega, by omega⟩, ck_true ⟨by omega, by omega, by omega⟩, ck_true (by simp; omega), ck_true ⟨by omega, by omega⟩, ck_true ⟨by omega, by omega⟩, ck_true (by simp; omega), ck_true ⟨by omega, by omega⟩]
    have s1 : l.set i ⟨(ix l (i : Int)).Bidder, x.E0, 1⟩ = setOne l i x.E0 := rfl
    have s2 : l.set i ⟨(ix l (i : Int)).Bidder, x.E1, 1⟩ = setOne l i x.E1 := rfl
    rw [s1, s2, progRun_eq hN, progRun_eq hN]
    simp only [Option.bind_some]
    split
    · rfl
    · rename_i h1
      simp only [Bool.or_eq_true, decide_eq_true_eq, not_or, Decidable.not_not] at h1
      obtain ⟨hc1, ha, r1⟩ := runAll_ok h1.1
      obtain ⟨hc2, _, r2⟩ := runAll_ok h1.2
      rw [r1, r2]
      obtain ⟨hB1, _⟩ := checkF_zero hc1
      obtain ⟨hB2, _⟩ := checkF_zero hc2
      unfold argsBad at ha
      have hwb := bidErr_none (hB1.at_ (i := i) (by rw [one_len]; exact hi))
      rw [one_ix hi, if_pos rfl] at hwb
      simp only at hwb
      have g : ∀ p, BidsOk (setOne l i p) → gainF (runF (setOne l i p) x.E2 x.E3) (i : Int) x.E0 = (ix (runF (setOne l i p) x.E2 x.E3).Won (i : Int) * (x.E0 - (runF (setOne l i p) x.E2 x.E3).Price), 0) := fun p hp => by
        unfold gainF
        rw [outErr_run hp (by omega) (by omega), if_neg (by simp), won_len, one_len, if_neg (by omega), if_neg (by omega)]
      rw [progGain_eq (by omega), progGain_eq (by omega), g _ hB1, g _ hB2]
      have ht := one_truth hi x.E2 x.E3 x.E0 x.E1
      simp [callIf, ht.1, ht.2]
end Go.Proofs.Ytimmifkdocjljaa
