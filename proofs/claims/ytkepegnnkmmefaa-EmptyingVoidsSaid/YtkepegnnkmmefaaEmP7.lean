/- Layer 18 in plain words: windows that are cut, records that are voided. -/
import Derived.Test.YtkepegnnkmmefaaEmP6
import Derived.Test.YtkepegnnkmmefaaEmpLWindows
import Derived.Test.YtkepegnnkmmefaaEmpLVoids
namespace Go.Proofs.Ytkepegnnkmmefaa

theorem filter_cut {l : List ApiEmptying} {p : Int → Bool} {m : Int} : ∀ {S : List Int}, (S.Pairwise fun a b => (ix l a).At ≤ (ix l b).At) → S.filter (fun i => p i && decide ((ix l i).At < m)) ++ S.filter (fun i => p i && decide (m ≤ (ix l i).At)) = S.filter p
  | [], _ => rfl
  | x :: S, h => by
    obtain ⟨h1, h2⟩ := List.pairwise_cons.1 h
    have ih := filter_cut (p := p) (m := m) h2
    by_cases hx : (ix l x).At < m
    · have hn : ¬ m ≤ (ix l x).At := by omega
      simp only [List.filter_cons, hx, hn, decide_true, decide_false, Bool.and_true, Bool.and_false, Bool.false_eq_true, if_false]
      split
      · rw [List.cons_append, ih]
      · exact ih
    · have hm : m ≤ (ix l x).At := by omega
      have hemp : S.filter (fun i => p i && decide ((ix l i).At < m)) = [] := by
        rw [List.filter_eq_nil_iff]
        intro y hy
        have := h1 y hy
        have : ¬ (ix l y).At < m := by omega
        simp [this]
      rw [hemp, List.nil_append] at ih
      simp only [List.filter_cons, hx, hm, decide_true, decide_false, Bool.and_true, Bool.and_false, Bool.false_eq_true, if_false]
      rw [hemp, List.nil_append]
      split
      · rw [ih]
      · exact ih
theorem emOf_zero {l : List ApiEmptying} {a : List ApiAssign} {h : Int} {w : ApiWindow} {gap : Int} (hz : (emOf l a h w gap).2 = 0) : (emCounts l gap).2 = 0 ∧ winOk w = true ∧ (emOf l a h w gap).1 = (emSel l gap).filter (emMine l a h w) := by
  unfold emOf at hz ⊢
  split
  · rename_i hc; rw [if_pos hc] at hz; exact absurd hz hc
  · rename_i hc
    rw [if_neg hc] at hz
    split
    · rename_i hw; rw [if_pos hw] at hz; exact absurd hz (by decide)
    · rename_i hw
      refine ⟨by simpa using hc, by simpa using hw, ?_⟩
      rw [(emCounts_zero (by simpa using hc)).2.2]
theorem emOf_of {l : List ApiEmptying} {a : List ApiAssign} {h : Int} {w : ApiWindow} {gap : Int} (h1 : (emCounts l gap).2 = 0) (h2 : winOk w = true) : emOf l a h w gap = ((emSel l gap).filter (emMine l a h w), 0) := by
  unfold emOf
  rw [if_neg (by simpa using h1), if_neg (by rw [h2]; decide), (emCounts_zero h1).2.2]
theorem emOf_bad {l : List ApiEmptying} {a : List ApiAssign} {h : Int} {w : ApiWindow} {gap : Int} (hz : (emOf l a h w gap).2 ≠ 0) : (emOf l a h w gap).1 = [] := by
  unfold emOf at hz ⊢
  split
  · rfl
  · rename_i hc
    rw [if_neg hc] at hz
    split
    · rfl
    · rename_i hw; rw [if_neg hw] at hz; exact absurd rfl hz
theorem lawEWindows_eq {N : Nat} (hN2 : 2000 < N) (l : List ApiEmptying) (a : List ApiAssign) (x : Recyclinglaw18Ask) : m_recyclinglaw18_EmptyingWindows N l a x = some true := by
  have hN : 700 < N := by omega
  unfold m_recyclinglaw18_EmptyingWindows m_recyclinglaw18_great
  rw [Option.bind_some, eAwake_eq hN]
  split
  · rfl
  · rename_i hgr
    simp only [Bool.or_eq_true, decide_eq_true_eq, not_or] at hgr
    have ha : a.length ≤ 60 := by omega
    rw [progOf_eq hN _ (by omega) (by omega), Option.bind_some]
    by_cases hz : (emOf l a x.Household x.When x.Gap).2 = 0
    · rw [if_neg (by simpa using hz)]
      obtain ⟨hc, hw, hall⟩ := emOf_zero hz
      obtain ⟨hck, _, _⟩ := emCounts_zero hc
      obtain ⟨hl, hv, hn⟩ := emCheck_zero hck
      have hwin := hw
      unfold winOk at hwin
      simp only [Bool.and_eq_true, decide_eq_true_eq] at hwin
      have e2 : Int.tdiv (x.When.To - x.When.From) 2 = (x.When.To - x.When.From) / 2 := Int.tdiv_eq_ediv_of_nonneg (by omega)
      have c1 : I64 (x.When.To - x.When.From) := by unfold I64; omega
      rw [ck_true c1, ck_true c1, e2, ck_true (by unfold I64; omega)]
      have hpick : ∃ m, x.When.From ≤ m ∧ m ≤ x.When.To ∧ (ck (decide (0 < (List.length l : Int)) = true → (0 : Int) ≤ 0 ∧ 0 < (List.length l : Int)) (
                ck (((decide (0 < (List.length l : Int))) && (decide (x.When.From ≤ (ix l 0).At))) = true → (0 : Int) ≤ 0 ∧ 0 < (List.length l : Int)) (
                  (if (((decide (0 < (List.length l : Int))) && (decide (x.When.From ≤ (ix l 0).At))) && (decide ((ix l 0).At < x.When.To))) = true then
                    ck ((0 : Int) ≤ 0 ∧ 0 < (List.length l : Int)) (
                      some (Step.next (ρ := Bool) ((ix l 0).At)))
                  else
                    some (.next (x.When.From + ((x.When.To - x.When.From) / 2))))))) = some (.next m) := by
        by_cases h0 : (0 : Int) < (l.length : Int)
        · have hp : (0 : Int) ≤ 0 ∧ 0 < (l.length : Int) := ⟨by omega, h0⟩
          rw [ck_true (fun _ => hp), ck_true (fun _ => hp)]
          split
          · rename_i hb
            simp only [Bool.and_eq_true, decide_eq_true_eq] at hb
            rw [ck_true hp]
            exact ⟨_, hb.1.2, by omega, rfl⟩
          · exact ⟨_, by omega, by omega, rfl⟩
        · rw [ck_true (fun h => absurd (of_decide_eq_true h) h0), ck_true (fun h => absurd (by simp only [Bool.and_eq_true, decide_eq_true_eq] at h; exact h.1) h0)]
          rw [if_neg (fun h => h0 (by simp only [Bool.and_eq_true, decide_eq_true_eq] at h; exact h.1.1))]
          exact ⟨_, by omega, by omega, rfl⟩
      obtain ⟨m, hm1, hm2, hpk⟩ := hpick
      rw [hpk, andThen_next, progOf_eq hN _ (by omega) (by omega), Option.bind_some, progOf_eq hN _ (by omega) (by omega), Option.bind_some]
      have w1 : winOk ⟨x.When.From, m⟩ = true := by
        unfold winOk
        simp only [Bool.and_eq_true, decide_eq_true_eq]
        omega
      have w2 : winOk ⟨m, x.When.To⟩ = true := by
        unfold winOk
        simp only [Bool.and_eq_true, decide_eq_true_eq]
        omega
      rw [emOf_of hc w1, emOf_of hc w2, hall, if_pos rfl, if_pos rfl]
      have hsl := emSel_len l x.Gap
      have f1 := List.length_filter_le (emMine l a x.Household ⟨x.When.From, m⟩) (emSel l x.Gap)
      have f2 := List.length_filter_le (emMine l a x.Household ⟨m, x.When.To⟩) (emSel l x.Gap)
      dsimp only
      rw [ck_true (by simp; omega), ck_true (by simp; omega), List.nil_append, eSame_eq (by rw [List.length_append]; omega) (by rw [List.length_append]; omega), Option.bind_some]
      have hcut : (emSel l x.Gap).filter (emMine l a x.Household ⟨x.When.From, m⟩) ++ (emSel l x.Gap).filter (emMine l a x.Household ⟨m, x.When.To⟩) = (emSel l x.Gap).filter (emMine l a x.Household x.When) := by
        have hs : (emSel l x.Gap).Pairwise fun a b => (ix l a).At ≤ (ix l b).At := (emSel_sorted hn x.Gap).imp fun {a b} h => by
          unfold emLtI emLt at h
          simp only [decide_eq_true_eq] at h
          omega
        rw [← filter_cut (p := emMine l a x.Household x.When) (m := m) hs]
        congr 1
        · refine List.filter_congr fun i _ => ?_
          unfold emMine
          rw [Bool.eq_iff_iff]
          simp only [Bool.and_eq_true, decide_eq_true_eq]
          constructor
          · rintro ⟨⟨q1, q2⟩, q3⟩; exact ⟨⟨⟨q1, by omega⟩, q3⟩, q2⟩
          · rintro ⟨⟨⟨q1, q2⟩, q3⟩, q4⟩; exact ⟨⟨q1, q4⟩, q3⟩
        · refine List.filter_congr fun i _ => ?_
          unfold emMine
          rw [Bool.eq_iff_iff]
          simp only [Bool.and_eq_true, decide_eq_true_eq]
          constructor
          · rintro ⟨⟨q1, q2⟩, q3⟩; exact ⟨⟨⟨by omega, q2⟩, q3⟩, q1⟩
          · rintro ⟨⟨⟨q1, q2⟩, q3⟩, q4⟩; exact ⟨⟨q4, q2⟩, q3⟩
      rw [hcut]
      simp
    · rw [if_pos hz, emOf_bad hz]
      simp [callIf]

/-! ### Voided records -/
def voided (l : List ApiEmptying) (k : Nat) : List ApiEmptying := l.set k ⟨(ix l (k : Int)).ID, (ix l (k : Int)).Container, (ix l (k : Int)).Vehicle, (ix l (k : Int)).At, (ix l (k : Int)).Mass, true⟩
theorem voided_len (l : List ApiEmptying) (k : Nat) : (voided l k).length = l.length := by simp [voided]
theorem voided_ix {l : List ApiEmptying} {k : Nat} (hk : k < l.length) {i : Int} (hi : 0 ≤ i ∧ i < l.length) : ix (voided l k) i = if i = (k : Int) then ⟨(ix l i).ID, (ix l i).Container, (ix l i).Vehicle, (ix l i).At, (ix l i).Mass, true⟩ else ix l i := by
  obtain ⟨j, rfl⟩ := Int.eq_ofNat_of_zero_le hi.1
  have hj : j < l.length := by omega
  unfold voided
  rw [ix_set hk hj]
  by_cases h : j = k
  · subst h; simp
  · rw [if_neg h, if_neg (by omega)]
theorem voided_key {l : List ApiEmptying} {k : Nat} (hk : k < l.length) {i : Int} (hi : 0 ≤ i ∧ i < l.length) : (ix (voided l k) i).ID = (ix l i).ID ∧ (ix (voided l k) i).Container = (ix l i).Container ∧ (ix (voided l k) i).At = (ix l i).At ∧ (∀ c v, emFault (ix (voided l k) i) c v = emFault (ix l i) c v) := by
  rw [voided_ix hk hi]
  split
  · exact ⟨rfl, rfl, rfl, fun _ _ => rfl⟩
  · exact ⟨rfl, rfl, rfl, fun _ _ => rfl⟩
theorem emCounts_voided {l : List ApiEmptying} {k : Nat} (hk : k < l.length) {gap : Int} (h : (emCounts l gap).2 = 0) : (emCounts (voided l k) gap).2 = 0 := by
  obtain ⟨h1, h2, h3⟩ := emCounts_zero h
  obtain ⟨hl, hv, hn⟩ := emCheck_zero h1
  have hck : emCheck (voided l k) 256 16 = 0 := by
    refine emCheck_of (by rw [voided_len]; exact hl) (fun x hx => ?_) ?_
    · obtain ⟨j, hj, rfl⟩ := List.mem_iff_getElem.1 hx
      rw [voided_len] at hj
      have := (voided_key hk (i := (j : Int)) ⟨by omega, by omega⟩).2.2.2 256 16
      rw [ix_nat (by rw [voided_len]; exact hj), ix_nat hj] at this
      rw [this]
      exact hv _ (List.getElem_mem hj)
    · have : (voided l k).map ApiEmptying.ID = l.map ApiEmptying.ID := by
        refine List.ext_getElem (by simp [voided_len]) fun j hj hj2 => ?_
        simp only [List.length_map] at hj hj2
        have := (voided_key hk (i := (j : Int)) ⟨by omega, by omega⟩).1
        rw [ix_nat hj, ix_nat hj2] at this
        simpa using this
      rw [this]
      exact hn
  unfold emCounts
  rw [if_neg (by simpa using hck), if_neg (by omega)]
theorem insAt_congr {lt lt' : Int → Int → Bool} (x : Int) : ∀ (l : List Int), (∀ y ∈ l, lt x y = lt' x y) → insAt lt x l = insAt lt' x l
  | [], _ => rfl
  | z :: l, h => by
    unfold insAt
    have h1 : l.all (fun w => lt x w) = l.all (fun w => lt' x w) := by
      rw [Bool.eq_iff_iff, List.all_eq_true, List.all_eq_true]
      exact ⟨fun q w hw => by rw [← h w (List.mem_cons_of_mem _ hw)]; exact q w hw, fun q w hw => by rw [h w (List.mem_cons_of_mem _ hw)]; exact q w hw⟩
    rw [h1, h z (List.mem_cons_self ..), insAt_congr x l fun y hy => h y (List.mem_cons_of_mem _ hy)]
theorem fold_ins_congr {lt lt' : Int → Int → Bool} {n : Int} (h : ∀ x y, (0 ≤ x ∧ x < n) → (0 ≤ y ∧ y < n) → lt x y = lt' x y) : ∀ (L acc : List Int), (∀ x ∈ L, 0 ≤ x ∧ x < n) → (∀ x ∈ acc, 0 ≤ x ∧ x < n) → L.foldl (insB lt) acc = L.foldl (insB lt') acc
  | [], _, _, _ => rfl
  | x :: L, acc, hL, ha => by
    rw [List.foldl_cons, List.foldl_cons]
    have hx := hL x (List.mem_cons_self ..)
    have e : insB lt acc x = insB lt' acc x := by
      unfold insB
      rw [insAt_congr x acc fun y hy => h x y hx (ha y hy)]
    rw [e]
    refine fold_ins_congr h L _ (fun y hy => hL y (List.mem_cons_of_mem _ hy)) fun y hy => ?_
    have := (insB_perm lt' acc x).mem_iff.1 hy
    rcases List.mem_append.1 this with hm | hm
    · exact ha y hm
    · rw [List.mem_singleton] at hm; subst hm; exact hx
theorem order_voided {l : List ApiEmptying} {k : Nat} (hk : k < l.length) : emOrder (voided l k) = emOrder l := by
  unfold emOrder
  rw [voided_len]
  refine fold_ins_congr (n := (l.length : Int)) (fun x y hx hy => ?_) _ _ (fun x hx => emIdx_mem.1 hx) (fun x hx => by cases hx)
  obtain ⟨a1, _, a3, _⟩ := voided_key hk hx
  obtain ⟨b1, _, b3, _⟩ := voided_key hk hy
  unfold emLtI emLt
  rw [a1, a3, b1, b3]
theorem keep_voided {l : List ApiEmptying} {k : Nat} (hk : k < l.length) (gap : Int) : ∀ (L acc : List Int), (∀ x ∈ L, 0 ≤ x ∧ x < (l.length : Int)) → (∀ x ∈ acc, 0 ≤ x ∧ x < (l.length : Int)) → (k : Int) ∉ L.foldl (emKeep l gap) acc → L.foldl (emKeep (voided l k) gap) acc = L.foldl (emKeep l gap) acc
  | [], _, _, _, _ => rfl
  | x :: L, acc, hL, ha, hn => by
    rw [List.foldl_cons, List.foldl_cons]
    rw [List.foldl_cons] at hn
    have hx := hL x (List.mem_cons_self ..)
    have hk0 : (k : Int) ∉ emKeep l gap acc x := fun hm => hn (emKeep_mono l gap L _ _ hm)
    have e : emKeep (voided l k) gap acc x = emKeep l gap acc x := by
      by_cases hxk : x = (k : Int)
      · have h1 : emOk l gap acc x = false := by
          cases hko : emOk l gap acc x with
          | false => rfl
          | true =>
            refine absurd ?_ hk0
            unfold emKeep
            rw [if_pos hko, ← hxk]
            simp
        have h2 : emOk (voided l k) gap acc x = false := by
          unfold emOk
          rw [voided_ix hk hx, if_pos hxk]
          simp
        unfold emKeep
        rw [h1, h2]
      · have : emOk (voided l k) gap acc x = emOk l gap acc x := by
          unfold emOk
          rw [show (ix (voided l k) x) = ix l x by rw [voided_ix hk hx, if_neg hxk]]
          congr 1
          rw [Bool.eq_iff_iff, List.all_eq_true, List.all_eq_true]
          have q : ∀ j ∈ acc, (ix (voided l k) j).Container = (ix l j).Container ∧ (ix (voided l k) j).At = (ix l j).At := fun j hj => ⟨(voided_key hk (ha j hj)).2.1, (voided_key hk (ha j hj)).2.2.1⟩
          exact ⟨fun h j hj => by have := h j hj; rwa [(q j hj).1, (q j hj).2] at this, fun h j hj => by rw [(q j hj).1, (q j hj).2]; exact h j hj⟩
        unfold emKeep
        rw [this]
    rw [e]
    refine keep_voided hk gap L _ (fun y hy => hL y (List.mem_cons_of_mem _ hy)) (fun y hy => ?_) hn
    unfold emKeep at hy
    split at hy
    · rcases List.mem_append.1 hy with hy | hy
      · exact ha y hy
      · rw [List.mem_singleton] at hy; subst hy; exact hx
    · exact ha y hy
theorem lawEVoids_eq {N : Nat} (hN : 700 < N) (l : List ApiEmptying) (gap p : Int) (hp : 0 ≤ p ∧ p ≤ 255) : m_recyclinglaw18_EmptyingVoids N l gap p = some true := by
  unfold m_recyclinglaw18_EmptyingVoids m_recyclinglaw18_great
  rw [Option.bind_some, eAwake_eq hN]
  split
  · rfl
  · rename_i hgr
    simp only [Bool.or_eq_true, Bool.and_eq_true, decide_eq_true_eq, not_or] at hgr
    have hl0 : 0 < l.length := by omega
    rw [progECounts_eq hN, Option.bind_some]
    by_cases hc : (emCounts l gap).2 = 0
    · rw [if_neg (by simpa using hc)]
      have hI : I64 p := by unfold I64; omega
      rw [ck_true hI, ck_true ⟨by omega, hI⟩]
      obtain ⟨q, rfl⟩ := Int.eq_ofNat_of_zero_le hp.1
      have hmod : Int.tmod (q : Int) (l.length : Int) = ((q % l.length : Nat) : Int) := by rw [Int.ofNat_tmod]
      generalize hkk : q % l.length = k at hmod
      have hk : k < l.length := by rw [← hkk]; exact Nat.mod_lt _ hl0
      rw [hmod, List.nil_append, ck_true (by simp; omega), ck_true ⟨by omega, by omega⟩, Int.toNat_natCast]
      change Option.bind (m_emptying_Counts N (voided l k) gap) _ = _
      rw [progECounts_eq hN, Option.bind_some]
      have hc2 := emCounts_voided hk hc
      obtain ⟨hck, hg, hs⟩ := emCounts_zero hc
      obtain ⟨hl, hv, hn⟩ := emCheck_zero hck
      obtain ⟨_, _, hs2⟩ := emCounts_zero hc2
      rw [hs, hs2, hc2]
      have hsl := emSel_len l gap
      have hsl2 := emSel_len (voided l k) gap
      rw [voided_len] at hsl2
      have hnk : (k : Int) ∉ emSel (voided l k) gap := fun hm => by
        have := (emSel_far (voided l k) gap).2 _ hm
        rw [voided_ix hk ⟨by omega, by omega⟩, if_pos rfl] at this
        cases this
      refine then_ex (emSel l gap).length (fun (b : Bool) i => (b, i)) (fun b => b) (fun i b => b = decide ((k : Int) ∈ (emSel l gap).take i)) false rfl (by simp) (by omega) (fun i b hi hb => ?_) (fun b _ => by (try simp only); rw [if_neg (by omega)]) (fun b hb => ?_)
      · refine ⟨_, ?_, rfl⟩
        try simp only
        rw [if_pos (by omega), ck_true (fun _ => ⟨by omega, by omega⟩), ix_nat hi, ck_true (by unfold I64; omega), hb]
        have : (decide ((k : Int) ∈ (emSel l gap).take i) || decide ((emSel l gap)[i] = (k : Int))) = decide ((k : Int) ∈ (emSel l gap).take (i + 1)) := by
          rw [Bool.eq_iff_iff]
          simp only [Bool.or_eq_true, decide_eq_true_eq]
          rw [mem_take_succ hi]
          exact ⟨fun h => h.imp id Eq.symm, fun h => h.imp id Eq.symm⟩
        rw [this]
      · rw [List.take_length] at hb
        refine then_ex (emSel (voided l k) gap).length (fun (_ : Unit) i => i) (fun _ => ()) (fun _ _ => True) () rfl trivial (by omega) (fun i _ hi _ => ⟨(), ?_, trivial⟩) (fun _ _ => by (try simp only); rw [if_neg (by omega)]) (fun _ _ => ?_)
        · have hne : (emSel (voided l k) gap)[i] ≠ (k : Int) := fun e => hnk (by rw [← e]; exact List.getElem_mem hi)
          try simp only
          rw [if_pos (by omega), ck_true ⟨by omega, by omega⟩, ix_nat hi, if_neg hne, ck_true (by unfold I64; omega)]
        · subst hb
          by_cases hm : (k : Int) ∈ emSel l gap
          · simp [hm, callIf]
          · have he : emSel (voided l k) gap = emSel l gap := by
              unfold emSel
              rw [order_voided hk]
              exact keep_voided hk gap _ _ (fun x hx => emOrder_mem.1 hx) (fun x hx => by cases hx) hm
            rw [he]
            simp [hm, callIf, eSame_eq (show (emSel l gap).length < N by omega) (show (emSel l gap).length < 4000000000 by omega)]
    · rw [if_pos hc]
      rfl
end Go.Proofs.Ytkepegnnkmmefaa
