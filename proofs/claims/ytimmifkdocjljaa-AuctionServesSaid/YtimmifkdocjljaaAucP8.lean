/- As many units are served as are asked for, up to the supply; nobody who offered more than the price is left out. -/
import Derived.Test.YtimmifkdocjljaaAucP7
namespace Go.Proofs.Ytimmifkdocjljaa
open Go.Sort

theorem sumN_add (n : Nat) (f g : Nat → Nat) : sumN n (fun j => f j + g j) = sumN n f + sumN n g := by
  induction n with
  | zero => rfl
  | succ n ih => rw [sumN_succ, sumN_succ, sumN_succ, ih]; omega
theorem sumN_zero (n : Nat) : sumN n (fun _ => 0) = 0 := by
  induction n with
  | zero => rfl
  | succ n ih => rw [sumN_succ, ih]
theorem sumN_one {n b : Nat} (hb : b < n) : sumN n (fun j => if b = j then 1 else 0) = 1 := by
  rw [sumN_at hb, if_pos rfl]
  have : sumN n (fun j => if j = b then 0 else if b = j then 1 else 0) = sumN n fun _ => 0 := sumN_congr fun j _ => by
    by_cases h : j = b
    · rw [if_pos h]
    · rw [if_neg h, if_neg (fun e => h e.symm)]
  rw [this, sumN_zero]
theorem sum_bids {n : Nat} : ∀ {T : List AuctionUnit}, (∀ x ∈ T, ∃ b : Nat, b < n ∧ x.bid_ = (b : Int)) → sumN n (fun (j : Nat) => T.countP fun x => decide (x.bid_ = (j : Int))) = T.length
  | [], _ => by
    simp only [List.countP_nil, List.length_nil]
    exact sumN_zero n
  | x :: T, h => by
    have ih := sum_bids fun y hy => h y (List.mem_cons_of_mem _ hy)
    obtain ⟨b, hb, hx⟩ := h x (List.mem_cons_self ..)
    have e1 : sumN n (fun (j : Nat) => (x :: T).countP fun x => decide (x.bid_ = (j : Int))) = sumN n (fun (j : Nat) => (T.countP fun x => decide (x.bid_ = (j : Int))) + if b = j then 1 else 0) := sumN_congr fun j _ => by
      rw [List.countP_cons, hx]
      by_cases h : b = j
      · subst h; simp
      · have h2 : ¬ (b : Int) = (j : Int) := by omega
        simp [h, h2]
    rw [e1, sumN_add, ih, sumN_one hb]
    rfl
theorem units_len (l : List ApiBid) (res : Int) : (unitsF l res).length = sumN l.length (cC l res) := by
  have h := countP_flat (fun _ : AuctionUnit => true) (fun j => (ix l (j : Int)).Count.toNat) (fun j => (⟨(ix l (j : Int)).Price, (j : Int)⟩ : AuctionUnit)) (fun j => res ≤ (ix l (j : Int)).Price) l.length
  have h2 : (unitsF l res).countP (fun _ => true) = (unitsF l res).length := by simp
  rw [← h2]
  refine h.trans (sumN_congr fun j _ => ?_)
  simp [cC]
theorem sumN_le {n m : Nat} (h : n ≤ m) (f : Nat → Nat) : sumN n f ≤ sumN m f := by
  induction m with
  | zero => have : n = 0 := by omega
            subst this; exact Nat.le_refl _
  | succ m ih =>
    by_cases hn : n = m + 1
    · subst hn; exact Nat.le_refl _
    · rw [sumN_succ]
      have := ih (by omega)
      omega
theorem lawServes_eq {N : Nat} (hN : 7000 < N) (l : List ApiBid) (supply res : Int) : m_recyclinglaw51_AuctionServes N l supply res = some true := by
  unfold m_recyclinglaw51_AuctionServes
  rw [awake_eq hN, progRun_eq hN]
  simp only [Option.bind_some]
  split
  · rfl
  · rename_i h60
    split
    · rename_i he
      have h1 : (runAll l supply res).1 = ⟨[], 0⟩ := by
        unfold runAll at he ⊢
        by_cases hc : checkF l = 0
        · rw [if_neg (by simpa using hc)] at he ⊢
          by_cases ha : argsBad supply res
          · rw [if_pos ha]
          · rw [if_neg ha] at he; exact absurd rfl he
        · rw [if_pos hc]
      rw [h1]
      simp [callIf]
    · rename_i he
      obtain ⟨hc, ha, e1⟩ := runAll_ok (by simpa using he)
      obtain ⟨hB, _⟩ := checkF_zero hc
      unfold argsBad at ha
      rw [e1]
      simp only [won_len]
      have hpg := price_ge l supply res
      have hlen := hB.1
      obtain ⟨k, rfl⟩ := Int.eq_ofNat_of_zero_le (show 0 ≤ supply by omega)
      rw [if_neg (by simp; omega)]
      have hS := fun u (hu : u ∈ unitCmp_sorted (unitsF l res)) => sorted_mem hu
      have hSl : (unitCmp_sorted (unitsF l res)).length = sumN l.length (cC l res) := by
        rw [← units_len]; exact List.length_mergeSort _
      have hcap : sumN l.length (cC l res) ≤ 6400 := by
        rw [← units_len]
        have := unitsTo_len hB res l.length (Nat.le_refl _)
        unfold unitsF
        omega
      have hwon : ∀ j, j < l.length → ix (runF l (k : Int) res).Won (j : Int) = ((((unitCmp_sorted (unitsF l res)).take k).countP fun x => decide (x.bid_ = (j : Int)) : Nat) : Int) := fun j hj => by
        have : (runF l (k : Int) res).Won = wonOf l.length ((unitCmp_sorted (unitsF l res)).take k) := rfl
        rw [this, ix_won hj]
      have hsum := sum_bids (n := l.length) (T := (unitCmp_sorted (unitsF l res)).take k) fun x hx => by
        obtain ⟨b, hb, h, _⟩ := hS x (List.mem_of_mem_take hx)
        exact ⟨b, hb, h⟩
      rw [List.length_take, hSl] at hsum
      have h0 : ((0 : Int), (0 : Int), (0 : Int)) = (fun i : Nat => (((sumN i (cC l res) : Nat) : Int), ((sumN i (fun (j : Nat) => ((unitCmp_sorted (unitsF l res)).take k).countP fun x => decide (x.bid_ = (j : Int))) : Nat) : Int), ((i : Nat) : Int))) 0 := rfl
      rw [h0, loopM_run (r := Step.next (((sumN l.length (cC l res) : Nat) : Int), ((sumN l.length (fun (j : Nat) => ((unitCmp_sorted (unitsF l res)).take k).countP fun x => decide (x.bid_ = (j : Int))) : Nat) : Int))) (fun i : Nat => (((sumN i (cC l res) : Nat) : Int), ((sumN i (fun (j : Nat) => ((unitCmp_sorted (unitsF l res)).take k).countP fun x => decide (x.bid_ = (j : Int))) : Nat) : Int), ((i : Nat) : Int))) l.length ?_ ?_ (by omega)]
      · rw [andThen_next, hsum]
        have hm : ((min k (sumN l.length (cC l res)) : Nat) : Int) = min ((sumN l.length (cC l res) : Nat) : Int) (k : Int) := by omega
        simp [callIf, hm]
      · intro i hi
        have hb := bidErr_none (hB.at_ hi)
        have hw := won_le hi hB (k : Int) res
        have hwe := won_eq hi (k : Int) res
        rw [Int.toNat_natCast] at hwe
        have s1 := sumN_le (show i + 1 ≤ l.length by omega) (cC l res)
        have s2 := sumN_le (show i + 1 ≤ l.length by omega) (fun (j : Nat) => ((unitCmp_sorted (unitsF l res)).take k).countP fun x => decide (x.bid_ = (j : Int)))
        have g1 : ¬ (0 < ix (runF l (k : Int) res).Won (i : Int) ∧ (ix l (i : Int)).Price < (runF l (k : Int) res).Price) := fun ⟨q1, q2⟩ => by
          have hel : res ≤ (ix l (i : Int)).Price := by
            rcases ltge (ix l (i : Int)).Price res with h | h
            · have : cC l res i = 0 := by unfold cC; rw [if_neg (by omega)]
              rw [this] at hwe
              omega
            · exact h
          have q3 := (price_iff l (k : Int) res _ (by omega)).1 (Int.le_refl (runF l (k : Int) res).Price)
          have q4 : cA l res (runF l (k : Int) res).Price ≤ cB l res (ix l (i : Int)).Price i := sumN_mono fun j _ => by
            split
            · rename_i hq
              rw [if_pos ⟨hq.1, by omega⟩]
              exact Nat.le_refl _
            · exact Nat.zero_le _
          rw [Int.toNat_natCast] at q3
          omega
        have g2 : ¬ (ix (runF l (k : Int) res).Won (i : Int) < (ix l (i : Int)).Count ∧ (runF l (k : Int) res).Price < (ix l (i : Int)).Price) := fun ⟨q1, q2⟩ => by
          have hC : cC l res i = (ix l (i : Int)).Count.toNat := by unfold cC; rw [if_pos (by omega)]
          have q4 : cB l res (ix l (i : Int)).Price i + cC l res i ≤ cA l res (ix l (i : Int)).Price := by
            unfold cA cB
            rw [sumN_at hi (fun (j : Nat) => if res ≤ (ix l (j : Int)).Price ∧ (ix l (i : Int)).Price ≤ (ix l (j : Int)).Price then (ix l (j : Int)).Count.toNat else 0), hC, if_pos ⟨by omega, Int.le_refl _⟩]
            refine Nat.add_le_add_right (sumN_mono fun j _ => ?_) _
            by_cases hji : j = i
            · subst hji
              rw [if_pos rfl, if_neg (by omega)]
              exact Nat.le_refl _
            · rw [if_neg hji]
              split
              · rename_i hq
                rw [if_pos ⟨hq.1, by omega⟩]
                exact Nat.le_refl _
              · exact Nat.zero_le _
          have q5 := (price_iff l (k : Int) res (ix l (i : Int)).Price (by omega)).2 (by rw [Int.toNat_natCast]; omega)
          omega
        have hss : sumN (i + 1) (cC l res) = sumN i (cC l res) + cC l res i := sumN_succ _ _
        have hws : sumN (i + 1) (fun (j : Nat) => ((unitCmp_sorted (unitsF l res)).take k).countP fun x => decide (x.bid_ = (j : Int))) = sumN i (fun (j : Nat) => ((unitCmp_sorted (unitsF l res)).take k).countP fun x => decide (x.bid_ = (j : Int))) + ((unitCmp_sorted (unitsF l res)).take k).countP fun x => decide (x.bid_ = (i : Int)) := sumN_succ _ _
        have hwi := hwon i hi
        have h3 : (0 : Int) ≤ (i : Int) ∧ (i : Int) < (l.length : Int) := ⟨by omega, by omega⟩
        simp only
        rw [if_pos (by omega), ck_true h3]
        have hask : (if res ≤ (ix l (i : Int)).Price then ck ((0 : Int) ≤ (i : Int) ∧ (i : Int) < (l.length : Int)) (ck (I64 (((sumN i (cC l res) : Nat) : Int) + ((ix l (i : Int)).Count))) (some (Step.next (ρ := Step (Int × Int × Int) (Step (Int × Int) Bool)) (((sumN i (cC l res) : Nat) : Int) + ((ix l (i : Int)).Count))))) else some (Step.next ((sumN i (cC l res) : Nat) : Int))) = some (Step.next ((sumN (i + 1) (cC l res) : Nat) : Int)) := by
          rw [hss]
          by_cases hel : res ≤ (ix l (i : Int)).Price
          · have hC : cC l res i = (ix l (i : Int)).Count.toNat := by unfold cC; rw [if_pos hel]
            rw [if_pos hel, ck_true h3, ck_true ⟨by omega, by omega⟩, hC]
            congr 2
            omega
          · have hC : cC l res i = 0 := by unfold cC; rw [if_neg hel]
            rw [if_neg hel, hC]
            rfl
        rw [hask, andThen_next, ck_true h3, ck_true (fun _ => h3), ck_true (fun _ => h3), ck_true (fun _ => h3), ck_true (fun _ => h3), ck_true (fun _ => h3), ck_true (fun _ => h3), ck_true (fun _ => h3)]
        rw [if_neg (by
          simp only [Bool.or_eq_true, Bool.and_eq_true, decide_eq_true_eq]
          rintro (((q | q) | q) | q)
          · omega
          · omega
          · exact g1 q
          · exact g2 q)]
        rw [ck_true h3, ck_true (by rw [hwi]; exact ⟨by omega, by omega⟩), ck_true (i64_succ (by omega)), hws, hwi]
        simp
      · simp only
        rw [if_neg (by omega)]
end Go.Proofs.Ytimmifkdocjljaa
