/- The auction's accounts and comparisons, in plain words; the example. -/
import Derived.Test.YtimmifkdocjljaaAucP2
namespace Go.Proofs.Ytimmifkdocjljaa
open Go.Sort

theorem eq_scan {a b : List Int} (hl : a.length = b.length) : (List.range a.length).findSome? (fun (i : Nat) => if ix a (i : Int) ≠ ix b (i : Int) then some false else none) = if a = b then none else some false := by
  by_cases h : a = b
  · rw [if_pos h, List.findSome?_eq_none_iff]
    intro i _
    subst h
    simp
  · rw [if_neg h]
    cases hf : (List.range a.length).findSome? (fun (i : Nat) => if ix a (i : Int) ≠ ix b (i : Int) then some false else none) with
    | none =>
      exfalso
      apply h
      rw [List.findSome?_eq_none_iff] at hf
      refine List.ext_getElem hl fun i h1 h2 => ?_
      have := hf i (List.mem_range.2 h1)
      rw [ix_nat h1, ix_nat h2] at this
      split at this
      · cases this
      · rename_i hn; simpa using hn
    | some r =>
      obtain ⟨i, _, hr⟩ := List.exists_of_findSome?_eq_some hf
      split at hr
      · exact hr.symm
      · cases hr
def sameF (a b : ApiOutcome) : Bool := decide (a.Price = b.Price) && decide (a.Won = b.Won)
theorem same_eq {N : Nat} (a b : ApiOutcome) (hl : a.Won.length ≤ 1000000) (hN : a.Won.length < N) : m_recyclingref51_Same N a b = some (sameF a b) := by
  unfold m_recyclingref51_Same sameF
  by_cases h1 : a.Price = b.Price
  · by_cases h2 : a.Won.length = b.Won.length
    · rw [if_neg (by simp [h1, h2])]
      rw [scan (n := a.Won.length) (fun i => if ix a.Won (i : Int) ≠ ix b.Won (i : Int) then some false else none) (t := ()) ?_ ?_ hN, eq_scan h2]
      · by_cases h3 : a.Won = b.Won
        · rw [if_pos h3]; simp [h1, h3, stepOf, andThen]
        · rw [if_neg h3]; simp [h3, stepOf, andThen]
      · intro i hi
        rw [if_pos (by omega), ck_true ⟨by omega, by omega⟩, ck_true ⟨by omega, by omega⟩]
        split
        · rfl
        · rw [ck_true (i64_succ (by omega))]
      · simp
    · have h3 : ¬ a.Won = b.Won := fun h => h2 (by rw [h])
      rw [if_pos (by simp [h1]; omega)]
      simp [h3]
  · rw [if_pos (by simp [h1])]
    simp [h1]
theorem equal_eq {N : Nat} (a b : List Int) (hl : a.length ≤ 1000000) (hN : a.length < N) : m_slices_Equal N a b = some (decide (a = b)) := by
  unfold m_slices_Equal
  by_cases h2 : a.length = b.length
  · rw [if_neg (by simp [h2])]
    rw [scan (n := a.length) (fun i => if ix a (i : Int) ≠ ix b (i : Int) then some false else none) (t := ()) ?_ ?_ hN, eq_scan h2]
    · by_cases h3 : a = b
      · rw [if_pos h3]; simp [h3, stepOf, andThen]
      · rw [if_neg h3]; simp [h3, stepOf, andThen]
    · intro i hi
      rw [if_pos (by omega), ck_true ⟨by omega, by omega⟩, ck_true ⟨by omega, by omega⟩]
      split
      · rfl
      · rw [ck_true (i64_succ (by omega))]
    · simp
  · have h3 : ¬ a = b := fun h => h2 (by rw [h])
    rw [if_pos (by omega)]
    simp [h3]
def wonBad (n : Int) : Bool := decide (n < 0) || decide (100 < n)
def outErr (o : ApiOutcome) : Int := if 64 < o.Won.length then 8 else if (decide (o.Price < 0) || decide (1000000 < o.Price)) || o.Won.any wonBad then 1 else 0
theorem hasBad_eq {N : Nat} (l : List Int) (hl : l.length ≤ 1000000) (hN : l.length < N) : m_slices_ContainsFunc_auction_check_1 N l = some (l.any wonBad) := by
  unfold m_slices_ContainsFunc_auction_check_1 m_slices_IndexFunc_auction_check_1
  rw [idxLoop l (fun y => m_auction_check_1 N y) wonBad (fun _ => rfl) hl hN]
  simp only [Option.bind_some, idxF_any]
theorem check_eq {N : Nat} (hN : 64 < N) (o : ApiOutcome) : m_auction_check N o = some (outErr o) := by
  unfold m_auction_check outErr
  by_cases h : 64 < o.Won.length
  · rw [if_pos (by omega), if_pos h]
  · rw [if_neg (by omega), if_neg h, hasBad_eq _ (by omega) (by omega)]
    unfold callIf
    cases hp : (decide (o.Price < 0) || decide (1000000 < o.Price)) with
    | true => simp
    | false => cases o.Won.any wonBad <;> simp
theorem any_scan (l : List Int) : (List.range l.length).findSome? (fun (i : Nat) => if wonBad (ix l (i : Int)) = true then some (1 : Int) else none) = if l.any wonBad = true then some 1 else none := by
  have e := findSome_ix (fun x : Int => if wonBad x = true then some (1 : Int) else none) l
  refine e.trans ?_
  cases hq : l.any wonBad with
  | true =>
    obtain ⟨y, hy, hyy⟩ := List.any_eq_true.1 hq
    cases hf : l.findSome? (fun x : Int => if wonBad x = true then some (1 : Int) else none) with
    | none =>
      rw [List.findSome?_eq_none_iff] at hf
      have := hf y hy
      simp [hyy] at this
    | some r =>
      obtain ⟨z, _, hz⟩ := List.exists_of_findSome?_eq_some hf
      split at hz
      · simpa using hz.symm
      · cases hz
  | false =>
    rw [if_neg (by decide), List.findSome?_eq_none_iff]
    intro y hy
    rw [if_neg (List.any_eq_false.1 hq y hy)]
theorem fault_eq {N : Nat} (hN : 64 < N) (o : ApiOutcome) : m_recyclingref51_fault N o = some (outErr o) := by
  unfold m_recyclingref51_fault outErr
  by_cases h : 64 < o.Won.length
  · rw [if_pos (by omega), if_pos h]
  · rw [if_neg (by omega), if_neg h]
    rw [scan (n := o.Won.length) (fun i => if wonBad (ix o.Won (i : Int)) = true then some (1 : Int) else none) (t := ()) ?_ ?_ (by omega), any_scan]
    · cases o.Won.any wonBad with
      | true => simp [stepOf, andThen]
      | false =>
        simp only [Bool.or_false, Bool.false_eq_true, if_false, stepOf, andThen]
        split <;> rfl
    · intro i hi
      rw [if_pos (by omega), ck_true ⟨by omega, by omega⟩, ck_true (fun _ => ⟨by omega, by omega⟩)]
      have e1 : wonBad (ix o.Won (i : Int)) = (decide (ix o.Won (i : Int) < 0) || decide (100 < ix o.Won (i : Int))) := rfl
      rw [e1]
      split
      · rfl
      · rw [ck_true (i64_succ (by omega))]
    · simp
theorem outErr_zero {o : ApiOutcome} (h : outErr o = 0) : o.Won.length ≤ 64 ∧ 0 ≤ o.Price ∧ o.Price ≤ 1000000 ∧ ∀ x ∈ o.Won, 0 ≤ x ∧ x ≤ 100 := by
  unfold outErr at h
  split at h
  · cases h
  · rename_i h64
    split at h
    · cases h
    · rename_i hb
      simp only [Bool.or_eq_true, decide_eq_true_eq, List.any_eq_true, not_or, not_exists, not_and] at hb
      refine ⟨by omega, by omega, by omega, fun x hx => ?_⟩
      have := hb.2 x hx
      simp only [wonBad, Bool.or_eq_true, decide_eq_true_eq] at this
      omega
theorem sum_bound {l : List Int} : (∀ x ∈ l, 0 ≤ x ∧ x ≤ 100) → 0 ≤ l.sum ∧ l.sum ≤ 100 * l.length := by
  induction l with
  | nil => intro _; simp
  | cons x l ih =>
    intro h
    have h1 := h x (List.mem_cons_self ..)
    have h2 := ih fun y hy => h y (List.mem_cons_of_mem _ hy)
    simp only [List.sum_cons, List.length_cons]
    omega
theorem sum_take_succ {l : List Int} {i : Nat} (h : i < l.length) : (l.take (i + 1)).sum = (l.take i).sum + ix l (i : Int) := by
  rw [List.take_succ_eq_append_getElem h, List.sum_append, ix_nat h]
  simp
def revF (o : ApiOutcome) : Int × Int := if outErr o ≠ 0 then (0, outErr o) else (o.Won.sum * o.Price, 0)
theorem small_mul {a p : Int} (h1 : 0 ≤ a) (h2 : a ≤ 6400) (h3 : 0 ≤ p) (h4 : p ≤ 1000000) : 0 ≤ a * p ∧ a * p ≤ 6400000000 := by
  refine ⟨Int.mul_nonneg h1 h3, ?_⟩
  calc a * p ≤ 6400 * p := Int.mul_le_mul_of_nonneg_right h2 h3
    _ ≤ 6400 * 1000000 := Int.mul_le_mul_of_nonneg_left h4 (by omega)
    _ = 6400000000 := by omega
theorem take_bound {o : ApiOutcome} (h : outErr o = 0) (i : Nat) : 0 ≤ (o.Won.take i).sum ∧ (o.Won.take i).sum ≤ 6400 := by
  obtain ⟨h1, _, _, h4⟩ := outErr_zero h
  have := sum_bound (l := o.Won.take i) fun x hx => h4 x (List.mem_of_mem_take hx)
  have h5 : (o.Won.take i).length ≤ 64 := by rw [List.length_take]; omega
  omega
theorem refRev_eq {N : Nat} (hN : 64 < N) (o : ApiOutcome) : m_recyclingref51_Revenue N o = some (revF o) := by
  unfold m_recyclingref51_Revenue revF
  rw [fault_eq hN]
  simp only [Option.bind_some]
  by_cases h : outErr o = 0
  · rw [if_neg (show ¬ outErr o ≠ 0 by simpa using h), if_neg (show ¬ outErr o ≠ 0 by simpa using h)]
    obtain ⟨h1, h2, h3, h4⟩ := outErr_zero h
    have h0 : ((0 : Int), (0 : Int)) = (fun i : Nat => ((o.Won.take i).sum, ((i : Nat) : Int))) 0 := rfl
    rw [h0, loopM_run (r := Step.next o.Won.sum) (fun i : Nat => ((o.Won.take i).sum, ((i : Nat) : Int))) o.Won.length ?_ ?_ (by omega)]
    · have hb := take_bound h o.Won.length
      rw [List.take_length] at hb
      have hm := small_mul hb.1 hb.2 h2 h3
      rw [andThen_next, ck_true ⟨by omega, by omega⟩]
    · intro i hi
      have hb := take_bound h (i + 1)
      rw [sum_take_succ hi] at hb
      simp only
      rw [if_pos (by omega), ck_true ⟨by omega, by omega⟩, ck_true ⟨by omega, by omega⟩, ck_true (i64_succ (by omega)), sum_take_succ hi]
      simp
    · simp only [List.take_length]
      rw [if_neg (by omega)]
  · rw [if_pos (show outErr o ≠ 0 from h), if_pos (show outErr o ≠ 0 from h)]
theorem progRev_eq {N : Nat} (hN : 64 < N) (o : ApiOutcome) : m_auction_Revenue N o = some (revF o) := by
  unfold m_auction_Revenue revF
  rw [check_eq hN]
  simp only [Option.bind_some]
  by_cases h : outErr o = 0
  · rw [if_neg (show ¬ outErr o ≠ 0 by simpa using h), if_neg (show ¬ outErr o ≠ 0 by simpa using h)]
    obtain ⟨h1, h2, h3, h4⟩ := outErr_zero h
    have h0 : ((0 : Int), (0 : Int)) = (fun i : Nat => ((o.Won.take i).sum * o.Price, ((i : Nat) : Int))) 0 := by simp
    rw [h0, loopM_run (r := Step.next (o.Won.sum * o.Price)) (fun i : Nat => ((o.Won.take i).sum * o.Price, ((i : Nat) : Int))) o.Won.length ?_ ?_ (by omega)]
    · rw [andThen_next]
    · intro i hi
      have hb := take_bound h (i + 1)
      rw [sum_take_succ hi] at hb
      have hm := small_mul hb.1 hb.2 h2 h3
      have hx := h4 (ix o.Won (i : Int)) (by rw [ix_nat hi]; exact List.getElem_mem _)
      have hm2 := small_mul hx.1 (by omega) h2 h3
      rw [Int.add_mul] at hm
      simp only
      rw [if_pos (by omega), ck_true ⟨by omega, by omega⟩, ck_true ⟨by omega, by omega⟩, ck_true ⟨by omega, by omega⟩, ck_true (i64_succ (by omega)), sum_take_succ hi, Int.add_mul]
      simp
    · simp only [List.take_length]
      rw [if_neg (by omega)]
  · rw [if_pos (show outErr o ≠ 0 from h), if_pos (show outErr o ≠ 0 from h)]
def gainF (o : ApiOutcome) (i worth : Int) : Int × Int := if outErr o ≠ 0 then (0, outErr o) else if i < 0 ∨ (o.Won.length : Int) ≤ i then (0, 7) else if worth < 0 ∨ 1000000 < worth then (0, 1) else (ix o.Won i * (worth - o.Price), 0)
theorem gain_mul {a d : Int} (h1 : 0 ≤ a) (h2 : a ≤ 100) (h3 : -1000000 ≤ d) (h4 : d ≤ 1000000) : -100000000 ≤ a * d ∧ a * d ≤ 100000000 := by
  rcases Int.le_total 0 d with hd | hd
  · have := small_mul h1 (by omega) hd h4
    have h5 : a * d ≤ 100 * d := Int.mul_le_mul_of_nonneg_right h2 hd
    omega
  · have := small_mul h1 (by omega) (show 0 ≤ -d by omega) (show -d ≤ 1000000 by omega)
    have h5 : a * (-d) ≤ 100 * (-d) := Int.mul_le_mul_of_nonneg_right h2 (by omega)
    rw [Int.mul_neg] at *
    omega
theorem progGain_eq {N : Nat} (hN : 64 < N) (o : ApiOutcome) (i worth : Int) : m_auction_Gain N o i worth = some (gainF o i worth) := by
  unfold m_auction_Gain gainF
  rw [check_eq hN]
  simp only [Option.bind_some, Bool.or_eq_true, decide_eq_true_eq]
  split
  · rfl
  · rename_i h
    have h' : outErr o = 0 := by simpa using h
    obtain ⟨h1, h2, h3, h4⟩ := outErr_zero h'
    split
    · rfl
    · split
      · rfl
      · obtain ⟨k, rfl⟩ := Int.eq_ofNat_of_zero_le (show 0 ≤ i by omega)
        have hk : k < o.Won.length := by omega
        have hx := h4 (ix o.Won (k : Int)) (by rw [ix_nat hk]; exact List.getElem_mem _)
        have hm := gain_mul (d := worth - o.Price) hx.1 hx.2 (by omega) (by omega)
        rw [ck_true ⟨by omega, by omega⟩, ck_true ⟨by omega, by omega⟩, ck_true ⟨by omega, by omega⟩]
theorem refGain_eq {N : Nat} (hN : 64 < N) (o : ApiOutcome) (i worth : Int) : m_recyclingref51_Gain N o i worth = some (gainF o i worth) := by
  unfold m_recyclingref51_Gain gainF
  rw [fault_eq hN]
  simp only [Option.bind_some, Bool.or_eq_true, decide_eq_true_eq]
  split
  · rfl
  · rename_i h
    have h' : outErr o = 0 := by simpa using h
    obtain ⟨h1, h2, h3, h4⟩ := outErr_zero h'
    split
    · rfl
    · split
      · rfl
      · obtain ⟨k, rfl⟩ := Int.eq_ofNat_of_zero_le (show 0 ≤ i by omega)
        have hk : k < o.Won.length := by omega
        have hx := h4 (ix o.Won (k : Int)) (by rw [ix_nat hk]; exact List.getElem_mem _)
        have hm := gain_mul (d := worth - o.Price) hx.1 hx.2 (by omega) (by omega)
        rw [ck_true ⟨by omega, by omega⟩, ck_true ⟨by omega, by omega⟩, ck_true ⟨by omega, by omega⟩]
theorem runAll_len (l : List ApiBid) (supply res : Int) : (runAll l supply res).1.Won.length ≤ 64 := by
  unfold runAll
  split
  · simp
  · rename_i h
    split
    · simp
    · obtain ⟨hB, _⟩ := checkF_zero (l := l) (by simpa using h)
      simp [runF, wonOf]
      exact hB.1
def holdsF (l : List ApiBid) (supply res : Int) (o : ApiOutcome) : Bool := decide ((runAll l supply res).2 = 0) && sameF (runAll l supply res).1 o
theorem progHolds_eq {N : Nat} (hN : 7000 < N) (l : List ApiBid) (supply res : Int) (o : ApiOutcome) : m_auction_Holds N l supply res o = some (holdsF l supply res o) := by
  unfold m_auction_Holds holdsF sameF
  rw [progRun_eq hN]
  have hlen := runAll_len l supply res
  simp only [Option.bind_some]
  rw [equal_eq _ _ (by omega) (by omega)]
  unfold callIf
  generalize runAll l supply res = r
  by_cases h1 : r.2 = 0
  · by_cases h2 : r.1.Price = o.Price
    · simp [h1, h2]
    · simp [h2]
  · simp [h1]
end Go.Proofs.Ytimmifkdocjljaa
