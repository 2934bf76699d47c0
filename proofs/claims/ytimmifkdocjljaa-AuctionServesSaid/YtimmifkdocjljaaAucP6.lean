/- The reference's auction takes the same units: Run and Holds of both sides agree. -/
import Derived.Test.YtimmifkdocjljaaAucP5
import Derived.Test.YtimmifkdocjljaaAucLRuns
import Derived.Test.YtimmifkdocjljaaAucLHolds
namespace Go.Proofs.Ytimmifkdocjljaa
open Go.Sort

theorem loopM_post {σ ρ : Type} {f : σ → Option (Step σ ρ)} (I : σ → Prop) (Post : ρ → Prop) (m : σ → Nat) (h : ∀ s, I s → (∃ s', f s = some (.next s') ∧ I s' ∧ m s' < m s) ∨ ∃ r, f s = some (.done r) ∧ Post r) : ∀ (N : Nat) (s : σ), I s → m s < N → ∃ r, loopM f N s = some r ∧ Post r
  | 0, _, _, hN => absurd hN (Nat.not_lt_zero _)
  | N + 1, s, hs, hN => by
    unfold loopM
    rcases h s hs with ⟨s', h1, h2, h3⟩ | ⟨r, h1, h2⟩
    · rw [h1]
      exact loopM_post I Post m h N s' h2 (by omega)
    · rw [h1]
      exact ⟨r, rfl, h2⟩
/-- Bid j still has a unit that is asked for. -/
def Cand (l : List ApiBid) (tk : List Int) (res : Int) (j : Nat) : Prop := res ≤ (ix l (j : Int)).Price ∧ ix tk (j : Int) < (ix l (j : Int)).Count
/-- k is the first of the best of the bids before i that have one. -/
def Best (l : List ApiBid) (tk : List Int) (res : Int) (i : Nat) (k : Int) : Prop :=
  (k = -1 ∧ ∀ j, j < i → ¬ Cand l tk res j) ∨ ∃ b : Nat, k = b ∧ b < i ∧ Cand l tk res b ∧ ∀ j, j < i → Cand l tk res j → (ix l (j : Int)).Price < (ix l (b : Int)).Price ∨ (ix l (j : Int)).Price = (ix l (b : Int)).Price ∧ b ≤ j
theorem next_best {N : Nat} {l : List ApiBid} {tk : List Int} (hl : l.length ≤ 64) (ht : tk.length = l.length) (res : Int) (hN : 64 < N) : ∃ k, m_recyclingref51_next N l tk res = some k ∧ Best l tk res l.length k := by
  unfold m_recyclingref51_next
  have key : ∃ r : Step Int Int, loopM (fun (s123 : Int × Int) =>
      (if s123.2 < (List.length l : Int) then
        (andThen
          (ck ((0 : Int) ≤ s123.2 ∧ s123.2 < (List.length l : Int)) (
            ck (decide (res ≤ (ix l s123.2).Price) = true → (0 : Int) ≤ s123.2 ∧ s123.2 < (List.length tk : Int)) (
              ck (decide (res ≤ (ix l s123.2).Price) = true → (0 : Int) ≤ s123.2 ∧ s123.2 < (List.length l : Int)) (
                ck ((((decide (res ≤ (ix l s123.2).Price)) && (decide ((ix tk s123.2) < (ix l s123.2).Count))) && (!(decide (s123.1 < 0)))) = true → (0 : Int) ≤ s123.2 ∧ s123.2 < (List.length l : Int)) (
                  ck ((((decide (res ≤ (ix l s123.2).Price)) && (decide ((ix tk s123.2) < (ix l s123.2).Count))) && (!(decide (s123.1 < 0)))) = true → (0 : Int) ≤ s123.1 ∧ s123.1 < (List.length l : Int)) (
                    (if (((decide (res ≤ (ix l s123.2).Price)) && (decide ((ix tk s123.2) < (ix l s123.2).Count))) && ((decide (s123.1 < 0)) || (decide ((ix l s123.1).Price < (ix l s123.2).Price)))) = true then
                      some (.next s123.2)
                    else
                      some (.next s123.1))))))))
        fun (s135 : Int) =>
          ck (I64 (s123.2 + (1 : Int))) (
            some (.next (s135, (s123.2 + (1 : Int))))))
      else
        some (.done (.next s123.1)))) N ((-1 : Int), (0 : Int)) = some r ∧ ∃ k, r = .next k ∧ Best l tk res l.length k := by
    refine loopM_post (fun s : Int × Int => ∃ i : Nat, s.2 = (i : Int) ∧ i ≤ l.length ∧ Best l tk res i s.1) (fun r : Step Int Int => ∃ k, r = .next k ∧ Best l tk res l.length k) (fun s => l.length - s.2.toNat) ?_ N _ ⟨0, rfl, Nat.zero_le _, .inl ⟨rfl, fun j hj => absurd hj (Nat.not_lt_zero _)⟩⟩ (by simp; omega)
    rintro ⟨k, i'⟩ ⟨i, hi, hil, hB⟩
    simp only at hi hB ⊢
    subst hi
    by_cases hlt : i < l.length
    · refine .inl ?_
      have h3 : (0 : Int) ≤ (i : Int) ∧ (i : Int) < (l.length : Int) := ⟨by omega, by omega⟩
      have hk : k = -1 ∨ ∃ b : Nat, k = b ∧ b < l.length := by
        rcases hB with ⟨h, _⟩ | ⟨b, h, hb, _⟩
        · exact .inl h
        · exact .inr ⟨b, h, by omega⟩
      rw [if_pos (by omega), ck_true h3, ck_true (fun _ => ⟨by omega, by omega⟩), ck_true (fun _ => h3), ck_true (fun _ => h3), ck_true (fun hq => by
        simp only [Bool.and_eq_true, Bool.not_eq_true', decide_eq_false_iff_not] at hq
        rcases hk with rfl | ⟨b, rfl, hb⟩
        · exact absurd hq.2 (by omega)
        · exact ⟨by omega, by omega⟩)]
      have hsucc := i64_succ (i := i) (by omega)
      clear hk
      by_cases hc : Cand l tk res i ∧ (k < 0 ∨ (ix l k).Price < (ix l (i : Int)).Price)
      · refine ⟨((i : Int), (i : Int) + 1), ?_, ⟨i + 1, by simp, by omega, .inr ⟨i, rfl, by omega, hc.1, fun j hj hcj => ?_⟩⟩, by simp only; omega⟩
        · rw [if_pos (by simp only [Bool.and_eq_true, Bool.or_eq_true, decide_eq_true_eq]; exact ⟨hc.1, hc.2⟩), andThen_next, ck_true hsucc]
        · by_cases hji : j = i
          · subst hji; right; exact ⟨rfl, Nat.le_refl _⟩
          · left
            rcases hB with ⟨rfl, hno⟩ | ⟨b, rfl, hb, _, hmax⟩
            · exact absurd hcj (hno j (by omega))
            · have h5 := hmax j (by omega) hcj
              rcases hc.2 with h6 | h6
              · omega
              · omega
      · refine ⟨(k, (i : Int) + 1), ?_, ⟨i + 1, by simp, by omega, ?_⟩, by simp only; omega⟩
        · rw [if_neg (by simp only [Bool.and_eq_true, Bool.or_eq_true, decide_eq_true_eq]; exact fun h => hc ⟨h.1, h.2⟩), andThen_next, ck_true hsucc]
        · rcases hB with ⟨rfl, hno⟩ | ⟨b, rfl, hb, hcb, hmax⟩
          · refine .inl ⟨rfl, fun j hj => ?_⟩
            by_cases hji : j = i
            · subst hji; exact fun h => hc ⟨h, .inl (by omega)⟩
            · exact hno j (by omega)
          · refine .inr ⟨b, rfl, by omega, hcb, fun j hj hcj => ?_⟩
            by_cases hji : j = i
            · subst hji
              by_cases hlt2 : (ix l (b : Int)).Price < (ix l (j : Int)).Price
              · exact absurd ⟨hcj, .inr hlt2⟩ hc
              · omega
            · exact hmax j (by omega) hcj
    · refine .inr ⟨.next k, ?_, k, rfl, ?_⟩
      · rw [if_neg (by omega)]
      · have : i = l.length := by omega
        rw [← this]; exact hB
  obtain ⟨r, h1, k, rfl, h2⟩ := key
  rw [h1]
  exact ⟨k, rfl, h2⟩
theorem ix_won {n j : Nat} (hj : j < n) (u : List AuctionUnit) : ix (wonOf n u) (j : Int) = ((u.countP fun x => decide (x.bid_ = (j : Int)) : Nat) : Int) := by
  rw [ix_nat (by simp [wonOf]; exact hj)]
  simp [wonOf]
theorem count_split {α : Type} (p : α → Bool) (S : List α) (m : Nat) : S.countP p = (S.take m).countP p + (S.drop m).countP p := by
  conv => lhs; rw [← List.take_append_drop m S]
  exact List.countP_append
theorem next_eq {N : Nat} {l : List ApiBid} (hB : BidsOk l) (res : Int) (hN : 64 < N) (m : Nat) :
    m_recyclingref51_next N l (wonOf l.length ((unitCmp_sorted (unitsF l res)).take m)) res = some (match (unitCmp_sorted (unitsF l res))[m]? with | some u => u.bid_ | none => -1) := by
  obtain ⟨k, hk, hbest⟩ := next_best (tk := wonOf l.length ((unitCmp_sorted (unitsF l res)).take m)) hB.1 (by simp [wonOf]) res hN
  rw [hk]
  congr 1
  have hpw := unit_pw (unitsF l res)
  have hmem := fun u (hu : u ∈ unitCmp_sorted (unitsF l res)) => sorted_mem hu
  have hcnt : ∀ j, j < l.length → (unitCmp_sorted (unitsF l res)).countP (fun x => decide (x.bid_ = (j : Int))) = cC l res j := fun j hj => by rw [sorted_count, count_C hj]
  generalize hS : unitCmp_sorted (unitsF l res) = S at *
  have hcand : ∀ j, j < l.length → (Cand l (wonOf l.length (S.take m)) res j ↔ 0 < (S.drop m).countP (fun x => decide (x.bid_ = (j : Int)))) := fun j hj => by
    have h1 := hcnt j hj
    rw [count_split _ S m] at h1
    have hc := bidErr_none (hB.at_ hj)
    unfold Cand
    rw [ix_won hj]
    unfold cC at h1
    split at h1
    · constructor
      · intro h; omega
      · intro h; exact ⟨‹_›, by omega⟩
    · constructor
      · intro h; exact absurd h.1 ‹_›
      · intro h; omega
  have hsome : ∀ j, j < l.length → 0 < (S.drop m).countP (fun x => decide (x.bid_ = (j : Int))) → ∃ x ∈ S.drop m, x.bid_ = (j : Int) ∧ x.price_ = (ix l (j : Int)).Price := fun j hj h => by
    obtain ⟨x, hx, hxj⟩ := List.countP_pos_iff.1 h
    obtain ⟨b, hb, h1, h2, _⟩ := hmem x (List.mem_of_mem_drop hx)
    have hxj' : x.bid_ = (j : Int) := by simpa using hxj
    have : b = j := by omega
    subst this
    exact ⟨x, hx, h1, h2⟩
  cases hm : S[m]? with
  | none =>
    have hlen := List.getElem?_eq_none_iff.1 hm
    have hdrop : S.drop m = [] := List.drop_of_length_le hlen
    rcases hbest with ⟨rfl, _⟩ | ⟨b, rfl, hb, hcb, _⟩
    · rfl
    · have := (hcand b hb).1 hcb
      rw [hdrop] at this
      simp at this
  | some u =>
    obtain ⟨hml, rfl⟩ := List.getElem?_eq_some_iff.1 hm
    obtain ⟨b, hb, hu1, hu2, _⟩ := hmem S[m] (List.getElem_mem _)
    have hdrop : S.drop m = S[m] :: S.drop (m + 1) := List.drop_eq_getElem_cons hml
    have hcb : Cand l (wonOf l.length (S.take m)) res b := (hcand b hb).2 (by rw [hdrop, List.countP_cons]; simp [hu1])
    have hle : ∀ j, j < l.length → Cand l (wonOf l.length (S.take m)) res j → (ix l (j : Int)).Price < (ix l (b : Int)).Price ∨ (ix l (j : Int)).Price = (ix l (b : Int)).Price ∧ b ≤ j := fun j hj hcj => by
      obtain ⟨x, hx, h1, h2⟩ := hsome j hj ((hcand j hj).1 hcj)
      rw [hdrop] at hx
      rcases List.mem_cons.1 hx with rfl | hx
      · have : b = j := by omega
        subst this; right; exact ⟨rfl, Nat.le_refl _⟩
      · have h3 : (S.drop m).Pairwise fun a b => ltOf unitCmp b a = false := hpw.sublist (List.drop_sublist _ _)
        rw [hdrop] at h3
        have h4 := (List.pairwise_cons.1 h3).1 x hx
        rw [unit_lt] at h4
        simp only [decide_eq_false_iff_not] at h4
        omega
    show k = S[m].bid_
    rcases hbest with ⟨_, hno⟩ | ⟨b', rfl, hb', hcb', hmax⟩
    · exact absurd hcb (hno b hb)
    · have h1 := hle b' hb' hcb'
      have h2 := hmax b hb hcb
      rw [hu1]
      omega
theorem refRun_eq {N : Nat} (hN : 7000 < N) (l : List ApiBid) (supply res : Int) : m_recyclingref51_Run N l supply res = some (runAll l supply res) := by
  unfold m_recyclingref51_Run runAll
  rw [refCheck_eq (by omega)]
  simp only [Option.bind_some]
  by_cases hc : checkF l = 0
  · rw [if_neg (show ¬ checkF l ≠ 0 by simpa using hc), if_neg (show ¬ checkF l ≠ 0 by simpa using hc)]
    obtain ⟨hB, _⟩ := checkF_zero hc
    have hlen := hB.1
    by_cases ha : argsBad supply res
    · rw [if_pos (show ((((decide (supply < 0)) || (decide (1000 < supply))) || (decide (res < 0))) || (decide (1000000 < res))) = true by simpa [argsBad] using ha), if_pos ha]
    · rw [if_neg (show ¬ ((((decide (supply < 0)) || (decide (1000 < supply))) || (decide (res < 0))) || (decide (1000000 < res))) = true by simpa [argsBad] using ha), if_neg ha]
      unfold argsBad at ha
      obtain ⟨k, rfl⟩ := Int.eq_ofNat_of_zero_le (show 0 ≤ supply by omega)
      have hnext := fun m => next_eq hB res (show 64 < N by omega) m
      unfold runF
      have hmem := fun u (hu : u ∈ unitCmp_sorted (unitsF l res)) => sorted_mem hu
      have hSl : (unitCmp_sorted (unitsF l res)).length ≤ 6400 := by
        have h1 : (unitCmp_sorted (unitsF l res)).length = (unitsF l res).length := List.length_mergeSort _
        have h2 := unitsTo_len hB res l.length (Nat.le_refl _)
        unfold unitsF at h1
        unfold unitsF
        omega
      generalize unitCmp_sorted (unitsF l res) = S at hmem hSl hnext ⊢
      rw [ck_true ⟨by omega, by omega⟩]
      have htk : S.take (min k S.length) = S.take k := by
        rcases Nat.le_total k S.length with h | h
        · rw [Nat.min_eq_left h]
        · rw [Nat.min_eq_right h, List.take_of_length_le (Nat.le_refl _), List.take_of_length_le h]
      have h0 : (List.replicate (Int.toNat (l.length : Int)) (0 : Int), (0 : Int)) = ((fun i : Nat => (wonOf l.length (S.take i), ((i : Nat) : Int))) 0) := by
        refine Prod.ext ?_ rfl
        simp only [Int.toNat_natCast, List.take_zero, wonOf]
        refine List.ext_getElem? fun j => ?_
        by_cases hj : j < l.length <;> simp [hj]
      rw [h0, loopM_run (r := Step.next (wonOf l.length (S.take k))) (fun i : Nat => (wonOf l.length (S.take i), ((i : Nat) : Int))) (min k S.length) ?_ ?_ (by omega)]
      · rw [andThen_next, hnext k]
        simp only [Option.bind_some, Int.toNat_natCast]
        cases hk : S[k]? with
        | none =>
          simp only
          rw [if_neg (by omega), andThen_next]
        | some u =>
          obtain ⟨b, hb, h1, h2, _⟩ := hmem u (List.mem_of_getElem? hk)
          simp only
          rw [if_pos (by omega), ck_true ⟨by omega, by omega⟩, andThen_next, h1, ← h2]
      · intro i hi
        have hiS : i < S.length := by omega
        obtain ⟨b, hb, hbid, _⟩ := hmem S[i] (List.getElem_mem _)
        have hwl : (wonOf l.length (S.take i)).length = l.length := by simp [wonOf]
        have hcnt : (S.take i).countP (fun x => decide (x.bid_ = (b : Int))) ≤ 6400 := Nat.le_trans List.countP_le_length (by simp; omega)
        simp only
        rw [if_pos (by omega), hnext i, List.getElem?_eq_getElem hiS]
        simp only [Option.bind_some]
        rw [hbid, if_neg (by omega), ck_true ⟨by omega, by rw [hwl]; omega⟩, ck_true (by rw [ix_won hb]; exact ⟨by omega, by omega⟩), ck_true ⟨by omega, by rw [hwl]; omega⟩, ck_true (i64_succ (by omega)), Int.toNat_natCast, wonOf_step hbid hb]
        rw [List.take_succ_eq_append_getElem hiS]
        simp
      · simp only
        rcases Nat.lt_or_ge S.length k with hlt | hge
        · rw [if_pos (by omega), hnext, List.getElem?_eq_none (by omega)]
          simp only [Option.bind_some]
          rw [if_pos (by omega), htk]
        · rw [if_neg (by omega), htk]
  · rw [if_pos (show checkF l ≠ 0 from hc), if_pos (show checkF l ≠ 0 from hc)]
theorem sameF_refl (a : ApiOutcome) : sameF a a = true := by simp [sameF]
theorem lawRuns_eq {N : Nat} (hN : 7000 < N) (l : List ApiBid) (supply res : Int) : m_recyclinglaw51_AuctionRuns N l supply res = some true := by
  unfold m_recyclinglaw51_AuctionRuns
  have hlen := runAll_len l supply res
  rw [awake_eq hN, progRun_eq hN, refRun_eq hN]
  simp only [Option.bind_some]
  rw [same_eq _ _ (by omega) (by omega), sameF_refl]
  split
  · rfl
  · simp [callIf]
theorem refHolds_eq {N : Nat} (hN : 7000 < N) (l : List ApiBid) (supply res : Int) (o : ApiOutcome) : m_recyclingref51_Holds N l supply res o = some (holdsF l supply res o) := by
  unfold m_recyclingref51_Holds holdsF
  have hlen := runAll_len l supply res
  rw [refRun_eq hN]
  simp only [Option.bind_some]
  rw [same_eq _ _ (by omega) (by omega)]
  unfold callIf
  generalize runAll l supply res = r
  by_cases h1 : r.2 = 0
  · simp [h1]
  · simp [h1]
theorem lawHolds_eq {N : Nat} (hN : 7000 < N) (l : List ApiBid) (x : Recyclinglaw51Sale) : m_recyclinglaw51_AuctionHolds N l x = some true := by
  unfold m_recyclinglaw51_AuctionHolds
  rw [awake_eq hN, progRun_eq hN]
  simp only [Option.bind_some, progHolds_eq hN, refHolds_eq hN]
  split
  · rfl
  · have : holdsF l x.Supply x.Reserve (runAll l x.Supply x.Reserve).1 = decide ((runAll l x.Supply x.Reserve).2 = 0) := by
      unfold holdsF
      rw [sameF_refl]; simp
    simp [callIf, this]
end Go.Proofs.Ytimmifkdocjljaa
