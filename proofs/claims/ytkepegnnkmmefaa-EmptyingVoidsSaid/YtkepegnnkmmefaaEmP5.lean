/- Layer 18 in plain words: of records of a container that count, each is more than the gap behind the last; every other record has a reason. -/
import Derived.Test.YtkepegnnkmmefaaEmP4
import Derived.Test.YtkepegnnkmmefaaEmpLCounts
namespace Go.Proofs.Ytkepegnnkmmefaa

def emFar (l : List ApiEmptying) (gap : Int) (a b : Int) : Prop := (ix l a).Container ≠ (ix l b).Container ∨ gap < (ix l b).At - (ix l a).At
theorem emOk_iff {l : List ApiEmptying} {gap : Int} {out : List Int} {i : Int} : emOk l gap out i = true ↔ (ix l i).Void = false ∧ ∀ j ∈ out, emFar l gap j i := by
  unfold emOk emFar
  simp only [Bool.and_eq_true, Bool.not_eq_true', List.all_eq_true, Bool.or_eq_true, decide_eq_true_eq]
theorem emKeep_far (l : List ApiEmptying) (gap : Int) : ∀ (L acc : List Int), acc.Pairwise (emFar l gap) → (∀ x ∈ acc, (ix l x).Void = false) → (L.foldl (emKeep l gap) acc).Pairwise (emFar l gap) ∧ ∀ x ∈ L.foldl (emKeep l gap) acc, (ix l x).Void = false
  | [], _, h, hv => ⟨h, hv⟩
  | y :: L, acc, h, hv => by
    rw [List.foldl_cons]
    unfold emKeep
    split
    · rename_i hk
      obtain ⟨k1, k2⟩ := emOk_iff.1 hk
      refine emKeep_far l gap L _ (List.pairwise_append.2 ⟨h, by simp, fun a ha b hb => ?_⟩) fun x hx => ?_
      · rw [List.mem_singleton] at hb; subst hb; exact k2 a ha
      · rcases List.mem_append.1 hx with hx | hx
        · exact hv x hx
        · rw [List.mem_singleton] at hx; subst hx; exact k1
    · exact emKeep_far l gap L acc h hv
theorem emSel_far (l : List ApiEmptying) (gap : Int) : (emSel l gap).Pairwise (emFar l gap) ∧ ∀ x ∈ emSel l gap, (ix l x).Void = false := emKeep_far l gap _ _ List.Pairwise.nil fun x hx => by cases hx
theorem emKeep_mono (l : List ApiEmptying) (gap : Int) : ∀ (L acc : List Int), ∀ x ∈ acc, x ∈ L.foldl (emKeep l gap) acc
  | [], _, _, hx => hx
  | y :: L, acc, x, hx => by
    rw [List.foldl_cons]
    refine emKeep_mono l gap L _ x ?_
    unfold emKeep
    split
    · exact List.mem_append_left _ hx
    · exact hx
theorem emSel_sorted {l : List ApiEmptying} (hn : (l.map ApiEmptying.ID).Nodup) (gap : Int) : (emSel l gap).Pairwise (fun a b => emLtI l a b = true) := by
  have := emSel_At hn gap (emOrder l).length
  rwa [List.take_length] at this
theorem emSel_nodup {l : List ApiEmptying} (hn : (l.map ApiEmptying.ID).Nodup) (gap : Int) : (emSel l gap).Nodup := (emSel_sorted hn gap).imp fun {a b} h e => by
  subst e
  unfold emLtI at h
  rw [emLt_irrefl] at h
  cases h
/-- Every record that does not count has a reason. -/
theorem emSel_reason {l : List ApiEmptying} (hn : (l.map ApiEmptying.ID).Nodup) (gap : Int) {x : Int} (hx : 0 ≤ x ∧ x < l.length) (hs : x ∉ emSel l gap) (hv : (ix l x).Void = false) : ∃ j ∈ emSel l gap, (ix l j).Container = (ix l x).Container ∧ (ix l j).At ≤ (ix l x).At ∧ (ix l x).At - (ix l j).At ≤ gap := by
  have hm : x ∈ emOrder l := emOrder_mem.2 hx
  obtain ⟨L1, L2, hL⟩ := List.append_of_mem hm
  have hso := emOrder_sorted hn
  rw [hL] at hso
  have hfold : emSel l gap = L2.foldl (emKeep l gap) (emKeep l gap (L1.foldl (emKeep l gap) []) x) := by
    unfold emSel
    rw [hL, List.foldl_append, List.foldl_cons]
  generalize hacc : L1.foldl (emKeep l gap) [] = acc at hfold
  have hno : emOk l gap acc x = false := by
    cases hk : emOk l gap acc x with
    | false => rfl
    | true =>
      refine absurd ?_ hs
      rw [hfold]
      refine emKeep_mono l gap L2 _ x ?_
      unfold emKeep
      rw [if_pos hk]
      simp
  have : ∃ j ∈ acc, ¬ emFar l gap j x := by
    refine Classical.byContradiction fun hh => ?_
    have : emOk l gap acc x = true := emOk_iff.2 ⟨hv, fun j hj => Classical.byContradiction fun hf => hh ⟨j, hj, hf⟩⟩
    rw [hno] at this
    cases this
  obtain ⟨j, hj, hf⟩ := this
  have hjL : j ∈ L1 := by
    rw [← hacc] at hj
    rcases emKeep_sub l gap _ _ j hj with h | h
    · cases h
    · exact h
  have hlt := (List.pairwise_append.1 hso).2.2 j hjL x (List.mem_cons_self ..)
  unfold emLtI emLt at hlt
  simp only [decide_eq_true_eq] at hlt
  unfold emFar at hf
  refine ⟨j, ?_, by omega, by omega, by omega⟩
  rw [hfold]
  refine emKeep_mono l gap L2 _ j ?_
  unfold emKeep
  split
  · exact List.mem_append_left _ hj
  · exact hj
theorem mem_take_iff_get {l : List Int} (hn : l.Nodup) {i : Nat} (hi : i < l.length) : l[i] ∉ l.take i := fun hm => by
  obtain ⟨j, hj, he⟩ := List.mem_iff_getElem.1 hm
  rw [List.length_take] at hj
  rw [List.getElem_take] at he
  have := nodup_get hn (by omega) hi he
  omega
theorem ix_set {α : Type} [Inhabited α] {l : List α} {i : Nat} {v : α} {j : Nat} (_ : i < l.length) (hj : j < l.length) : ix (l.set i v) (j : Int) = if j = i then v else ix l (j : Int) := by
  rw [ix_nat (by simpa using hj), ix_nat hj, List.getElem_set]
  by_cases h : i = j
  · subst h; simp
  · rw [if_neg h, if_neg (fun e => h e.symm)]
theorem lawECounts_eq {N : Nat} (hN : 700 < N) (l : List ApiEmptying) (gap : Int) : m_recyclinglaw18_EmptyingCounts N l gap = some true := by
  unfold m_recyclinglaw18_EmptyingCounts m_recyclinglaw18_great
  rw [Option.bind_some, eAwake_eq hN, progECounts_eq hN]
  split
  · rfl
  · rename_i hgr
    rw [Option.bind_some]
    by_cases hc : (emCounts l gap).2 = 0
    · rw [if_neg (by simpa using hc)]
      obtain ⟨hck, hg, hs⟩ := emCounts_zero hc
      obtain ⟨hl, hv, hn⟩ := emCheck_zero hck
      rw [hs]
      generalize hS : emSel l gap = S
      have hSl : S.length ≤ l.length := by rw [← hS]; exact emSel_len l gap
      have hSm : ∀ x ∈ S, 0 ≤ x ∧ x < (l.length : Int) := fun x hx => emSel_mem (gap := gap) (by rw [hS]; exact hx)
      have hSn : S.Nodup := by rw [← hS]; exact emSel_nodup hn gap
      have hSs := emSel_sorted hn gap
      obtain ⟨hSf, hSv⟩ := emSel_far l gap
      have hSr := fun x hx hs hv => emSel_reason hn gap (x := x) hx hs hv
      rw [hS] at hSs hSf hSv hSr
      rw [ck_true ⟨by omega, by omega⟩, Int.toNat_natCast]
      refine then_ex S.length (fun (t : List Bool) i => (t, i)) (fun t => t) (fun i t => t.length = l.length ∧ ∀ j : Nat, j < l.length → ix t (j : Int) = decide ((j : Int) ∈ S.take i)) (List.replicate l.length false) rfl ⟨by simp, fun j hj => ?_⟩ (by omega) (fun i t hi ht => ?_) (fun t _ => by (try simp only); rw [if_neg (by omega)]) (fun t ht => ?_)
      · rw [ix_nat (by simpa using hj)]; simp
      · obtain ⟨ht1, ht2⟩ := ht
        have h3 : I64 ((i : Int) + 1) := by unfold I64; omega
        have h1 : (0 : Int) ≤ (i : Int) ∧ (i : Int) < (S.length : Int) := ⟨by omega, by omega⟩
        have hx := hSm _ (List.getElem_mem hi)
        have hvx := hSv _ (List.getElem_mem hi)
        have hnt := mem_take_iff_get hSn hi
        obtain ⟨a, ha⟩ := Int.eq_ofNat_of_zero_le hx.1
        have hal : a < l.length := by omega
        have hct : ix t S[i] = false := by rw [ha, ht2 a hal, ← ha]; simpa using hnt
        refine ⟨t.set a true, ?_, by simpa using ht1, fun j hj => ?_⟩
        · simp only
          rw [if_pos h1.2, ck_true h1, ck_true (fun _ => h1), ck_true (fun _ => h1), ix_nat hi, ck_true (fun _ => by rw [ht1]; exact hx), ck_true (fun _ => h1), ck_true (fun _ => hx)]
          have e1 : (((decide (S[i] < 0) || decide ((l.length : Int) ≤ S[i])) || ix t S[i]) || (ix l S[i]).Void) = false := by
            rw [hct, hvx]
            have q1 : ¬ S[i] < 0 := by omega
            have q2 : ¬ (l.length : Int) ≤ S[i] := by omega
            simp [q1, q2]
          rw [if_neg (by rw [e1]; decide), ck_true h1, ck_true (by rw [ht1]; exact hx)]
          obtain ⟨_, _, hin⟩ := loop_ex (β := Unit) (σ := Int) (ρ := Step (List Bool × Int) (Step (List Bool) Bool)) (f := fun (s2613 : Int) =>
            (if s2613 < (i : Int) then
              ck ((0 : Int) ≤ s2613 ∧ s2613 < (List.length S : Int)) (
                ck ((0 : Int) ≤ (ix S s2613) ∧ (ix S s2613) < (List.length l : Int)) (
                  ck ((0 : Int) ≤ (i : Int) ∧ (i : Int) < (List.length S : Int)) (
                    ck ((0 : Int) ≤ S[i] ∧ S[i] < (List.length l : Int)) (
                      ck (((!((decide ((ix l S[i]).At < (ix l (ix S s2613)).At)) || ((decide ((ix l (ix S s2613)).At = (ix l S[i]).At)) && (decide ((ix l S[i]).ID ≤ (ix l (ix S s2613)).ID))))) && (decide ((ix l (ix S s2613)).Container = (ix l S[i]).Container))) = true → I64 (((ix l S[i]).At) - ((ix l (ix S s2613)).At))) (
                        (if (((decide ((ix l S[i]).At < (ix l (ix S s2613)).At)) || ((decide ((ix l (ix S s2613)).At = (ix l S[i]).At)) && (decide ((ix l S[i]).ID ≤ (ix l (ix S s2613)).ID)))) || ((decide ((ix l (ix S s2613)).Container = (ix l S[i]).Container)) && (decide ((((ix l S[i]).At) - ((ix l (ix S s2613)).At)) ≤ gap)))) = true then
                          some (.done (.done (.done (.done (false)))))
                        else
                          ck (I64 (s2613 + (1 : Int))) (
                            some (.next (s2613 + (1 : Int))))))))))
            else
              some (.done (.next ())))) (N := N) (s0 := 0) i (fun (_ : Unit) k => k) (fun _ => ()) (fun _ _ => True) () rfl trivial (fun k _ hk _ => ⟨(), by
              have hkS : k < S.length := by omega
              have hy := hSm _ (List.getElem_mem hkS)
              have hlt := List.pairwise_iff_getElem.1 hSs k i hkS hi hk
              have hfar := List.pairwise_iff_getElem.1 hSf k i hkS hi hk
              unfold emLtI emLt at hlt
              unfold emFar at hfar
              simp only [decide_eq_true_eq] at hlt
              try simp only
              rw [if_pos (by omega), ck_true ⟨by omega, by omega⟩, ix_nat hkS, ck_true hy, ck_true h1, ck_true hx, ck_true (fun _ => at_sub hv hx hy), if_neg (by
                simp only [Bool.or_eq_true, Bool.and_eq_true, decide_eq_true_eq]
                omega), ck_true (by unfold I64; omega)], trivial⟩) (fun _ _ => by (try simp only); rw [if_neg (by omega)]) (by omega)
          rw [hin, andThen_next, ck_true h3, ha]
          rfl
        · rw [ix_set (by omega) (by omega), ht2 j hj]
          by_cases hja : j = a
          · subst hja
            rw [if_pos rfl, ← ha]
            exact (decide_eq_true ((mem_take_succ hi).2 (.inr rfl))).symm
          · rw [if_neg hja]
            have hne : ¬ (j : Int) = S[i] := by rw [ha]; omega
            refine decide_eq_decide.2 ⟨fun h => (mem_take_succ hi).2 (.inl h), fun h => ?_⟩
            rcases (mem_take_succ hi).1 h with h | h
            · exact h
            · exact absurd h hne
      · obtain ⟨ht1, ht2⟩ := ht
        rw [List.take_length] at ht2
        refine then_ex l.length (fun (_ : Unit) i => i) (fun _ => ()) (fun _ _ => True) () rfl trivial (by omega) (fun i _ hi _ => ⟨(), ?_, trivial⟩) (fun _ _ => by (try simp only); rw [if_neg (by omega)]) (fun _ _ => rfl)
        have h3 : I64 ((i : Int) + 1) := by unfold I64; omega
        have h1 : (0 : Int) ≤ (i : Int) ∧ (i : Int) < (l.length : Int) := ⟨by omega, by omega⟩
        try simp only
        rw [if_pos h1.2, ck_true ⟨h1.1, by rw [ht1]; exact h1.2⟩, ck_true (fun _ => h1)]
        have hstart : (ix t (i : Int) || (ix l (i : Int)).Void) = true ∨ ∃ k : Nat, ∃ hk : k < S.length, (ix l S[k]).Container = (ix l (i : Int)).Container ∧ (ix l S[k]).At ≤ (ix l (i : Int)).At ∧ (ix l (i : Int)).At - (ix l S[k]).At ≤ gap := by
          by_cases hm : (i : Int) ∈ S
          · left; rw [ht2 i hi]; simp [hm]
          · cases hvd : (ix l (i : Int)).Void with
            | true => left; simp
            | false =>
              right
              obtain ⟨j, hj, q⟩ := hSr (i : Int) h1 hm hvd
              obtain ⟨k, hk, rfl⟩ := List.mem_iff_getElem.1 hj
              exact ⟨k, hk, q⟩
        rw [loopM_inv (r := Step.next (ρ := Step Int (Step Unit Bool)) true) (fun s : Bool × Int => ∃ k : Nat, s.2 = (k : Int) ∧ k ≤ S.length ∧ (s.1 = true ∨ ∃ k' : Nat, ∃ hk : k' < S.length, k ≤ k' ∧ (ix l S[k']).Container = (ix l (i : Int)).Container ∧ (ix l S[k']).At ≤ (ix l (i : Int)).At ∧ (ix l (i : Int)).At - (ix l S[k']).At ≤ gap)) (fun s => S.length - s.2.toNat) ?_ N _ ?_ (by simp only; omega)]
        · rw [andThen_next]
          simp only [Bool.not_true, Bool.false_eq_true, if_false]
          rw [ck_true h3]
        · rintro ⟨b, s⟩ ⟨k, hks, hkl, hor⟩
          simp only at hks hor
          subst hks
          cases b with
          | true => right; simp
          | false =>
            left
            obtain ⟨k', hk', hkk, q1, q2, q3⟩ : ∃ k' : Nat, ∃ hk : k' < S.length, k ≤ k' ∧ (ix l S[k']).Container = (ix l (i : Int)).Container ∧ (ix l S[k']).At ≤ (ix l (i : Int)).At ∧ (ix l (i : Int)).At - (ix l S[k']).At ≤ gap := by
              rcases hor with h | h
              · cases h
              · exact h
            have hkS : k < S.length := by omega
            have hy := hSm _ (List.getElem_mem hkS)
            try simp only
            rw [if_pos (by simp; omega), ck_true ⟨by omega, by omega⟩, ix_nat hkS, ck_true hy, ck_true h1, ck_true (fun _ => h1), ck_true (fun _ => h1), ck_true (fun _ => at_sub hv h1 hy), ck_true (by unfold I64; omega)]
            refine ⟨_, rfl, ⟨k + 1, by simp, by omega, ?_⟩, by simp only; omega⟩
            rcases Nat.lt_or_ge k k' with h | h
            · by_cases hcd : (((decide ((ix l S[k]).Container = (ix l (i : Int)).Container)) && (decide ((ix l S[k]).At ≤ (ix l (i : Int)).At))) && (decide (((ix l (i : Int)).At - (ix l S[k]).At) ≤ gap))) = true
              · exact .inl hcd
              · exact .inr ⟨k', hk', by omega, q1, q2, q3⟩
            · left
              have : k = k' := by omega
              subst this
              simp [q1, q2, q3]
        · refine ⟨0, rfl, by omega, ?_⟩
          rcases hstart with h | ⟨k, hk, q⟩
          · exact .inl h
          · exact .inr ⟨k, hk, by omega, q⟩
    · rw [if_pos hc]
      have : (emCounts l gap).1 = [] := by
        unfold emCounts at hc ⊢
        split
        · rfl
        · rename_i h1
          rw [if_neg h1] at hc
          split
          · rfl
          · rename_i h2; rw [if_neg h2] at hc; exact absurd rfl hc
      rw [this]
      simp [callIf]
end Go.Proofs.Ytkepegnnkmmefaa
