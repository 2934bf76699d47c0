/- The auction's Run, in plain words: the units in their order, the counts of those that are served, the price. -/
import Derived.Test.YtimmifkdocjljaaAucP1
namespace Go.Proofs.Ytimmifkdocjljaa
open Go.Sort

theorem repeat_eq {N : Nat} (u : AuctionUnit) (c : Int) (h1 : 1 ≤ c) (h2 : c ≤ 100) (hN : 100 < N) : m_slices_Repeat N [u] c = some (List.replicate c.toNat u) := by
  obtain ⟨n, rfl⟩ := Int.eq_ofNat_of_zero_le (show 0 ≤ c by omega)
  have hn1 : 1 ≤ n := by omega
  have hn2 : n ≤ 100 := by omega
  have hmul : m_bits_Mul N (([u] : List AuctionUnit).length : Int) (n : Int) = some (0, (n : Int)) := by
    unfold m_bits_Mul
    rw [ck_true ⟨by simp, by simp, by omega, by omega⟩]
    have e1 : (([u] : List AuctionUnit).length : Int) * (n : Int) = n := by simp
    rw [e1]
    congr 1
    refine Prod.ext ?_ ?_
    · show (n : Int) / 18446744073709551616 = 0; omega
    · show (n : Int) % 18446744073709551616 = n; omega
  unfold m_slices_Repeat
  rw [if_neg (by omega), andThen_next, ck_true ⟨by simp, by simp⟩, ck_true ⟨by omega, by omega⟩, hmul]
  simp only [Option.bind_some]
  rw [if_neg (by simp; omega), andThen_next, ck_true ⟨by omega, by omega⟩, ck_true ⟨by omega, by omega⟩]
  rw [loopM_inv (r := Step.next (List.replicate n u)) (fun s : List AuctionUnit × Int => ∃ k : Nat, s.2 = k ∧ 1 ≤ k ∧ k ≤ n ∧ s.1.length = n ∧ s.1.take k = List.replicate k u) (fun s => n - s.2.toNat) ?_ N _ ?_ ?_]
  · rfl
  · rintro ⟨l, i⟩ ⟨k, hk, hk1, hk2, hl, ht⟩
    simp only at hk hl ht ⊢
    subst hk
    by_cases hlt : k < n
    · have hmin : min (l.length - k) (l.take k).length = min (n - k) k := by rw [List.length_take, hl]; omega
      refine .inl ⟨(copyAt l k (l.take k) (min (n - k) k), (k : Int) + ((min (n - k) k : Nat) : Int)), ?_, ⟨k + min (n - k) k, by simp, by omega, by omega, ?_, ?_⟩, ?_⟩
      · rw [if_pos (by rw [hl]; omega), ck_true ⟨by omega, by rw [hl]; omega⟩, ck_true ⟨by omega, by rw [hl]; omega⟩]
        simp only [Int.toNat_natCast, hmin]
        rw [ck_true ⟨by omega, by omega⟩]
      · simp only [copyAt, List.length_append, List.length_take, List.length_drop, hl]; omega
      · simp only [copyAt, ht]
        have e2 : (List.replicate k u).take (min (n - k) k) = List.replicate (min (n - k) k) u := by
          rw [List.take_replicate, Nat.min_eq_left (by omega)]
        rw [e2, List.replicate_append_replicate]
        rw [List.take_append_of_le_length (by simp)]
        rw [List.take_of_length_le (by simp)]
      · simp only; omega
    · refine .inr ?_
      have hkn : k = n := by omega
      subst hkn
      rw [if_neg (by rw [hl]; omega)]
      rw [List.take_of_length_le (by omega)] at ht
      rw [ht]
  · refine ⟨1, ?_, Nat.le_refl _, hn1, ?_, ?_⟩
    · simp only [Int.toNat_natCast, List.length_replicate, List.length_cons, List.length_nil]; omega
    · simp only [copyAt, Int.toNat_natCast, List.length_replicate, List.length_cons, List.length_nil, List.length_append, List.length_take, List.length_drop]; omega
    · have e1 : min (n - 0) 1 = 1 := by omega
      have e2 : min n 1 = 1 := by omega
      simp [copyAt, e2]
  · simp only [Int.toNat_natCast, List.length_replicate, List.length_cons, List.length_nil]; omega
/-- What the bids ask for, bid by bid. -/
def unitsTo (l : List ApiBid) (res : Int) (n : Nat) : List AuctionUnit := (List.range n).flatMap fun (j : Nat) => if res ≤ (ix l (j : Int)).Price then List.replicate (ix l (j : Int)).Count.toNat ⟨(ix l (j : Int)).Price, j⟩ else []
def unitsF (l : List ApiBid) (res : Int) : List AuctionUnit := unitsTo l res l.length
def BidsOk (l : List ApiBid) : Prop := l.length ≤ 64 ∧ ∀ x ∈ l, bidErr x = none
theorem bidErr_none {x : ApiBid} (h : bidErr x = none) : 0 ≤ x.Bidder ∧ x.Bidder ≤ 1000000 ∧ 0 ≤ x.Price ∧ x.Price ≤ 1000000 ∧ 1 ≤ x.Count ∧ x.Count ≤ 100 := by
  unfold bidErr at h
  split at h
  · cases h
  · split at h
    · cases h
    · omega
theorem unitsTo_succ (l : List ApiBid) (res : Int) (n : Nat) : unitsTo l res (n + 1) = unitsTo l res n ++ if res ≤ (ix l (n : Int)).Price then List.replicate (ix l (n : Int)).Count.toNat ⟨(ix l (n : Int)).Price, n⟩ else [] := by
  unfold unitsTo
  rw [List.range_succ, List.flatMap_append]
  simp
theorem BidsOk.at_ {l : List ApiBid} (h : BidsOk l) {i : Nat} (hi : i < l.length) : bidErr (ix l (i : Int)) = none := by rw [ix_nat hi]; exact h.2 _ (List.getElem_mem _)
theorem unitsTo_len {l : List ApiBid} (h : BidsOk l) (res : Int) : ∀ n, n ≤ l.length → (unitsTo l res n).length ≤ n * 100
  | 0, _ => by simp [unitsTo]
  | n + 1, hn => by
    have ih := unitsTo_len h res n (by omega)
    have hb := bidErr_none (h.at_ (i := n) (by omega))
    rw [unitsTo_succ, List.length_append]
    split
    · rw [List.length_replicate]; omega
    · simp only [List.length_nil]; omega
theorem asked_eq {N : Nat} (hN : 100 < N) {l : List ApiBid} (h : BidsOk l) (res : Int) : m_auction_asked N l res = some (unitCmp_sorted (unitsF l res)) := by
  unfold m_auction_asked
  have hlen := h.1
  have h0 : (([] : List AuctionUnit), (0 : Int)) = (fun i : Nat => (unitsTo l res i, ((i : Nat) : Int))) 0 := rfl
  rw [h0, loopM_run (r := Step.next (unitsF l res)) (fun i : Nat => (unitsTo l res i, ((i : Nat) : Int))) l.length ?_ ?_ (by omega)]
  · have hck : 3 ≤ N ∧ (unitsF l res).length < 4611686018427387904 := by
      have := unitsTo_len h res l.length (Nat.le_refl _)
      unfold unitsF
      omega
    rw [andThen_next, ck_true hck]
  · intro i hi
    have h1 : (i : Int) < (l.length : Int) := by omega
    have hb := bidErr_none (h.at_ hi)
    have hul := unitsTo_len h res i (by omega)
    simp only
    rw [if_pos h1, ck_true ⟨by omega, h1⟩, unitsTo_succ]
    by_cases hp : res ≤ (ix l (i : Int)).Price
    · rw [if_pos hp, if_pos hp, repeat_eq _ _ hb.2.2.2.2.1 hb.2.2.2.2.2 hN]
      simp only [Option.bind_some]
      rw [ck_true (by rw [List.length_replicate]; omega), andThen_next, ck_true (i64_succ (by omega))]
      simp
    · rw [if_neg hp, if_neg hp, andThen_next, ck_true (i64_succ (by omega))]
      simp
  · simp [unitsF]
/-- How many units each of n bids has among u. -/
def wonOf (n : Nat) (u : List AuctionUnit) : List Int := (List.range n).map fun (b : Nat) => ((u.countP fun x => decide (x.bid_ = (b : Int)) : Nat) : Int)
theorem wonOf_step {n : Nat} {u : List AuctionUnit} {x : AuctionUnit} {b : Nat} (hb : x.bid_ = b) (hn : b < n) : List.set (wonOf n u) b (ix (wonOf n u) (b : Int) + 1) = wonOf n (u ++ [x]) := by
  have hl : (wonOf n u).length = n := by simp [wonOf]
  have hix : ix (wonOf n u) (b : Int) = ((u.countP fun x => decide (x.bid_ = (b : Int)) : Nat) : Int) := by
    rw [ix_nat (by omega)]; simp [wonOf]
  rw [hix]
  refine List.ext_getElem? fun j => ?_
  rw [List.getElem?_set]
  by_cases hj : b = j
  · subst hj
    rw [if_pos rfl, if_pos (by omega)]
    simp [wonOf, hn, hb]
  · rw [if_neg hj]
    by_cases hjn : j < n
    · have : ¬ x.bid_ = (j : Int) := by rw [hb]; omega
      simp [wonOf, hjn, this]
    · simp [wonOf, hjn]
/-- The outcome of an auction. -/
def runF (l : List ApiBid) (supply res : Int) : ApiOutcome :=
  ⟨wonOf l.length ((unitCmp_sorted (unitsF l res)).take supply.toNat), match (unitCmp_sorted (unitsF l res))[supply.toNat]? with
    | some u => u.price_
    | none => res⟩
theorem sorted_mem {l : List ApiBid} {res : Int} {u : AuctionUnit} (h : u ∈ unitCmp_sorted (unitsF l res)) : ∃ b : Nat, b < l.length ∧ u.bid_ = b ∧ u.price_ = (ix l (b : Int)).Price ∧ res ≤ u.price_ := by
  have h1 : u ∈ unitsF l res := (List.mergeSort_perm _ _).mem_iff.1 h
  obtain ⟨b, hb, hu⟩ := List.mem_flatMap.1 h1
  have hb' := List.mem_range.1 hb
  split at hu
  · obtain ⟨_, rfl⟩ := List.mem_replicate.1 hu
    exact ⟨b, hb', rfl, rfl, ‹_›⟩
  · cases hu
theorem checkF_zero {l : List ApiBid} (h : checkF l = 0) : BidsOk l ∧ twice l = none := by
  unfold checkF at h
  split at h
  · cases h
  · rename_i h64
    split at h
    · rename_i e he
      obtain ⟨x, _, hx⟩ := List.exists_of_findSome?_eq_some he
      subst h
      unfold bidErr at hx
      split at hx
      · cases hx
      · split at hx <;> cases hx
    · rename_i hn
      refine ⟨⟨by omega, fun x hx => List.findSome?_eq_none_iff.1 hn x hx⟩, ?_⟩
      cases ht : twice l with
      | none => rfl
      | some r =>
        rw [ht] at h
        obtain ⟨i, _, hr⟩ := List.exists_of_findSome?_eq_some ht
        split at hr
        · injection hr with hr; subst hr; cases h
        · cases hr
def argsBad (supply res : Int) : Prop := ((supply < 0 ∨ 1000 < supply) ∨ res < 0) ∨ 1000000 < res
instance (a b : Int) : Decidable (argsBad a b) := by unfold argsBad; infer_instance
def runAll (l : List ApiBid) (supply res : Int) : ApiOutcome × Int := if checkF l ≠ 0 then (⟨[], 0⟩, checkF l) else if argsBad supply res then (⟨[], 0⟩, 1) else (runF l supply res, 0)
theorem progRun_eq {N : Nat} (hN : 7000 < N) (l : List ApiBid) (supply res : Int) : m_auction_Run N l supply res = some (runAll l supply res) := by
  unfold m_auction_Run runAll
  rw [progCheck_eq (by omega)]
  simp only [Option.bind_some]
  by_cases hc : checkF l = 0
  · rw [if_neg (show ¬ checkF l ≠ 0 by simpa using hc), if_neg (show ¬ checkF l ≠ 0 by simpa using hc)]
    obtain ⟨hB, _⟩ := checkF_zero hc
    have hlen := hB.1
    by_cases ha : argsBad supply res
    · rw [if_pos (show ((((decide (supply < 0)) || (decide (1000 < supply))) || (decide (res < 0))) || (decide (1000000 < res))) = true by simpa [argsBad] using ha), if_pos ha]
    · rw [if_neg (show ¬ ((((decide (supply < 0)) || (decide (1000 < supply))) || (decide (res < 0))) || (decide (1000000 < res))) = true by simpa [argsBad] using ha), if_neg ha, asked_eq (by omega) hB]
      simp only [Option.bind_some]
      unfold argsBad at ha
      obtain ⟨k, rfl⟩ := Int.eq_ofNat_of_zero_le (show 0 ≤ supply by omega)
      unfold runF
      have hmem := fun u (hu : u ∈ unitCmp_sorted (unitsF l res)) => sorted_mem hu
      have hSl : (unitCmp_sorted (unitsF l res)).length ≤ 6400 := by
        have h1 : (unitCmp_sorted (unitsF l res)).length = (unitsF l res).length := List.length_mergeSort _
        have h2 := unitsTo_len hB res l.length (Nat.le_refl _)
        unfold unitsF at h1
        unfold unitsF
        omega
      generalize unitCmp_sorted (unitsF l res) = S at hmem hSl ⊢
      have hk : (min (k : Int) (S.length : Int)).toNat = min k S.length := by omega
      rw [ck_true ⟨by omega, by omega⟩, ck_true ⟨by omega, by omega⟩]
      simp only [hk]
      have htk : S.take (min k S.length) = S.take k := by
        rcases Nat.le_total k S.length with h | h
        · rw [Nat.min_eq_left h]
        · rw [Nat.min_eq_right h, List.take_of_length_le (Nat.le_refl _), List.take_of_length_le h]
      rw [htk]
      have h0 : (List.replicate (Int.toNat (l.length : Int)) (0 : Int), (0 : Int)) = ((fun i : Nat => (wonOf l.length ((S.take k).take i), ((i : Nat) : Int))) 0) := by
        refine Prod.ext ?_ rfl
        simp only [Int.toNat_natCast, List.take_zero, wonOf]
        refine List.ext_getElem? fun j => ?_
        by_cases hj : j < l.length <;> simp [hj]
      rw [h0, loopM_run (r := Step.next (wonOf l.length (S.take k))) (fun i : Nat => (wonOf l.length ((S.take k).take i), ((i : Nat) : Int))) (S.take k).length ?_ ?_ ?_]
      · rw [andThen_next]
        by_cases hks : k < S.length
        · rw [if_pos (by omega), ck_true ⟨by omega, by omega⟩, andThen_next, Int.toNat_natCast, List.getElem?_eq_getElem hks]
          have : min (k : Int) (S.length : Int) = (k : Int) := by omega
          rw [this, ix_nat hks]
        · rw [if_neg (by omega), andThen_next, Int.toNat_natCast, List.getElem?_eq_none (by omega)]
      · intro i hi
        have h1 : (i : Int) < ((S.take k).length : Int) := by omega
        have hmi : (S.take k)[i] ∈ S := List.mem_of_mem_take (List.getElem_mem hi)
        obtain ⟨b, hb, hbid, _⟩ := hmem _ hmi
        have hiS : i ≤ 6400 := by simp at hi; omega
        have hwl : (wonOf l.length ((S.take k).take i)).length = l.length := by simp [wonOf]
        have hwi : ix (wonOf l.length ((S.take k).take i)) (b : Int) = ((((S.take k).take i).countP fun x => decide (x.bid_ = (b : Int)) : Nat) : Int) := by
          rw [ix_nat (by omega)]; simp [wonOf]
        have hcnt : ((S.take k).take i).countP (fun x => decide (x.bid_ = (b : Int))) ≤ 6400 := Nat.le_trans List.countP_le_length (by simp; omega)
        simp only
        rw [if_pos h1, ck_true ⟨by omega, h1⟩, ix_nat hi, hbid, ck_true ⟨by omega, by rw [hwl]; omega⟩, ck_true (by rw [hwi]; exact ⟨by omega, by omega⟩), ck_true ⟨by omega, by rw [hwl]; omega⟩, ck_true (i64_succ (by omega)), Int.toNat_natCast, wonOf_step hbid hb]
        have : (S.take k).take (i + 1) = (S.take k).take i ++ [(S.take k)[i]] := List.take_succ_eq_append_getElem hi
        rw [this]
        simp
      · simp only [List.take_length]
        rw [if_neg (by omega)]
      · simp; omega
  · rw [if_pos (show checkF l ≠ 0 from hc), if_pos (show checkF l ≠ 0 from hc)]
end Go.Proofs.Ytimmifkdocjljaa
