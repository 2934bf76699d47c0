/- Layer 18 in plain words: masses, the chapter's examples, the laws that hold the program against the reference. -/
import Derived.Test.YtkepegnnkmmefaaEmP3
import Derived.Test.YtkepegnnkmmefaaEmpLChecks
import Derived.Test.YtkepegnnkmmefaaEmpLSelects
import Derived.Test.YtkepegnnkmmefaaEmpLOwners
import Derived.Test.YtkepegnnkmmefaaEmpLMasses
namespace Go.Proofs.Ytkepegnnkmmefaa

def sumI : List Int → Int
  | [] => 0
  | x :: l => x + sumI l
theorem sumI_append (a b : List Int) : sumI (a ++ b) = sumI a + sumI b := by
  induction a with
  | nil => simp [sumI]
  | cons x a ih => simp only [List.cons_append, sumI, ih]; omega
theorem sumI_le {l : List Int} (h : ∀ x ∈ l, 0 ≤ x ∧ x ≤ 1073741824) : 0 ≤ sumI l ∧ sumI l ≤ l.length * 1073741824 := by
  induction l with
  | nil => simp [sumI]
  | cons x l ih =>
    have h1 := ih fun y hy => h y (List.mem_cons_of_mem _ hy)
    have h2 := h x (List.mem_cons_self ..)
    simp only [sumI, List.length_cons]
    omega
def emPart (v : Int) (w : ApiWindow) (x : ApiEmptying) : Bool := (((!x.Void) && decide (x.Vehicle = v)) && decide (w.From ≤ x.At)) && decide (x.At < w.To)
def spanSum (l : List ApiSpan) : ApiSpan := ⟨sumI (l.map ApiSpan.Lo), sumI (l.map ApiSpan.Hi)⟩
def emMass (l : List ApiEmptying) (v : Int) (w : ApiWindow) : ApiSpan × Int :=
  if emCheck l 256 16 ≠ 0 then (⟨0, 0⟩, emCheck l 256 16) else if winOk w = false then (⟨0, 0⟩, 1) else (spanSum ((l.filter (emPart v w)).map ApiEmptying.Mass), 0)
def massOk (s : ApiSpan) : Prop := 0 ≤ s.Lo ∧ s.Lo ≤ s.Hi ∧ s.Hi ≤ 1073741824
theorem spanSum_add (l : List ApiSpan) (s : ApiSpan) : spanSum (l ++ [s]) = ⟨(spanSum l).Lo + s.Lo, (spanSum l).Hi + s.Hi⟩ := by
  simp [spanSum, sumI_append, sumI]
theorem spanSum_le {l : List ApiSpan} (h : ∀ s ∈ l, massOk s) : 0 ≤ (spanSum l).Lo ∧ (spanSum l).Lo ≤ (spanSum l).Hi ∧ (spanSum l).Hi ≤ l.length * 1073741824 := by
  induction l with
  | nil => simp [spanSum, sumI]
  | cons s l ih =>
    have h1 := ih fun y hy => h y (List.mem_cons_of_mem _ hy)
    have h2 := h s (List.mem_cons_self ..)
    unfold massOk at h2
    simp only [spanSum, List.map_cons, sumI, List.length_cons] at h1 ⊢
    omega
theorem sum_eq {N : Nat} {l : List ApiSpan} (hN : l.length < N) (hl : l.length ≤ 600) (h : ∀ s ∈ l, massOk s) : m_span_Sum N l = some (spanSum l, 0) := by
  have hv : ∀ s, massOk s → m_span_Valid N s = some true := fun s hs => by
    unfold massOk at hs
    unfold m_span_Valid
    have h1 : -70368744177664 ≤ s.Lo := by omega
    have h2 : s.Hi ≤ 70368744177664 := by omega
    simp [h1, h2, hs.2.1]
  unfold m_span_Sum
  rw [if_neg (by omega)]
  have h1 : m_span_valid N l = some true := by
    unfold m_span_valid
    refine then_ex l.length (fun (_ : Unit) i => i) (fun _ => ()) (fun _ _ => True) () rfl trivial hN (fun i t hi _ => ⟨(), ?_, trivial⟩) (fun t _ => by (try simp only); rw [if_neg (by omega)]) (fun t _ => rfl)
    have h3 : I64 ((i : Int) + 1) := by unfold I64; omega
    try simp only
    rw [if_pos (by omega), ck_true ⟨by omega, by omega⟩, ix_nat hi, hv _ (h _ (List.getElem_mem hi)), Option.bind_some]
    simp only [Bool.not_true, Bool.false_eq_true, if_false]
    rw [ck_true h3]
  rw [h1, Option.bind_some]
  simp only [Bool.not_true, Bool.false_eq_true, if_false]
  have h2 : m_span_ends_span_sum_span_sum N (ApiSpan.mk 0 0) l = some (spanSum l) := by
    unfold m_span_ends_span_sum_span_sum
    refine then_ex l.length (fun (t : ApiSpan) i => (t.Lo, t.Hi, i)) (fun t => (t.Lo, t.Hi)) (fun i t => t = spanSum (l.take i)) ⟨0, 0⟩ rfl (by simp [spanSum, sumI]) hN (fun i t hi ht => ?_) (fun t _ => by (try simp only); rw [if_neg (by omega)]) (fun t ht => by rw [ht, List.take_length])
    have h3 : I64 ((i : Int) + 1) := by unfold I64; omega
    have hb := spanSum_le (l := l.take (i + 1)) fun s hs => h s (List.mem_of_mem_take hs)
    rw [take_succ_get hi, spanSum_add, ← ht, List.length_append, List.length_take] at hb
    simp only [List.length_singleton] at hb
    have hbl : (min i l.length : Nat) ≤ 600 := by omega
    refine ⟨_, ?_, by rw [take_succ_get hi, spanSum_add, ← ht]⟩
    unfold m_span_sum
    try simp only
    rw [if_pos (by omega), ck_true ⟨by omega, by omega⟩, ix_nat hi, ck_true (by unfold I64; omega), Option.bind_some, ck_true (by unfold I64; omega), Option.bind_some, ck_true h3]
  rw [h2, Option.bind_some]
  have hb := spanSum_le h
  have hv2 : m_span_Valid N (spanSum l) = some true := by
    unfold m_span_Valid
    have q1 : -70368744177664 ≤ (spanSum l).Lo := by omega
    have q2 : (spanSum l).Hi ≤ 70368744177664 := by omega
    simp [q1, q2, hb.2.1]
  unfold m_span_result
  rw [hv2]
  rfl
theorem mass_of_fault {x : ApiEmptying} {c v : Int} (h : emFault x c v = 0) : massOk x.Mass := by
  have := emFault_zero h
  unfold massOk
  omega
theorem refMass_eq {N : Nat} (hN : 700 < N) (l : List ApiEmptying) (v : Int) (w : ApiWindow) : m_recyclingref18_Mass N l v w = some (emMass l v w) := by
  unfold m_recyclingref18_Mass emMass m_recyclingref18_Window
  rw [refECheck_eq (by omega), Option.bind_some]
  by_cases hc : emCheck l 256 16 = 0
  · have hc' : ¬ emCheck l 256 16 ≠ 0 := by simpa using hc
    rw [if_neg hc', if_neg hc', Option.bind_some]
    change (if (!winOk w) = true then _ else _) = _
    cases hw : winOk w with
    | false => rfl
    | true =>
      obtain ⟨hl, hv, hn⟩ := emCheck_zero hc
      simp only [Bool.not_true, Bool.false_eq_true, if_false]
      rw [if_neg (by decide)]
      refine then_ex l.length (fun (t : ApiSpan) i => (t.Lo, t.Hi, i)) (fun t => (t.Lo, t.Hi)) (fun i t => t = spanSum (((l.take i).filter (emPart v w)).map ApiEmptying.Mass)) ⟨0, 0⟩ rfl (by simp [spanSum, sumI]) (by omega) (fun i t hi ht => ?_) (fun t _ => by (try simp only); rw [if_neg (by omega)]) (fun t ht => by rw [ht, List.take_length])
      have h3 : I64 ((i : Int) + 1) := by unfold I64; omega
      have h1 : (0 : Int) ≤ (i : Int) ∧ (i : Int) < (l.length : Int) := ⟨by omega, by omega⟩
      have hmo := mass_of_fault (hv _ (List.getElem_mem hi))
      have hb := spanSum_le (l := ((l.take i).filter (emPart v w)).map ApiEmptying.Mass) fun s hs => by
        obtain ⟨x, hx, rfl⟩ := List.mem_map.1 hs
        exact mass_of_fault (hv x (List.mem_of_mem_take ((List.mem_filter.1 hx).1)))
      rw [← ht, List.length_map] at hb
      have hfl := List.length_filter_le (emPart v w) (l.take i)
      rw [List.length_take] at hfl
      unfold massOk at hmo
      refine ⟨_, ?_, rfl⟩
      try simp only
      rw [if_pos (by omega), ck_true h1, ck_true (fun _ => h1), ck_true (fun _ => h1), ck_true (fun _ => h1), ix_nat hi, take_succ_get hi, List.filter_append]
      change andThen (if emPart v w l[i] = true then _ else _) _ = _
      cases hp : emPart v w l[i] with
      | true =>
        simp only [if_true]
        rw [ck_true h1, ck_true (by unfold I64; omega), ck_true h1, ck_true (by unfold I64; omega), andThen_next, ck_true h3, List.map_append]
        simp only [List.filter_cons, hp, if_true, List.filter_nil, List.map_cons, List.map_nil]
        rw [spanSum_add, ← ht]
      | false =>
        simp only [Bool.false_eq_true, if_false]
        rw [andThen_next, ck_true h3]
        simp only [List.filter_cons, hp, Bool.false_eq_true, if_false, List.filter_nil, List.append_nil]
        rw [← ht]
  · rw [if_pos hc, if_pos hc]
theorem progMass_eq {N : Nat} (hN : 700 < N) (l : List ApiEmptying) (v : Int) (w : ApiWindow) : m_emptying_Mass N l v w = some (emMass l v w) := by
  unfold m_emptying_Mass emMass m_emptying_window
  rw [progECheck_eq (by omega), Option.bind_some]
  by_cases hc : emCheck l 256 16 = 0
  · have hc' : ¬ emCheck l 256 16 ≠ 0 := by simpa using hc
    rw [if_neg hc', if_neg hc', Option.bind_some]
    change (if (!winOk w) = true then _ else _) = _
    cases hw : winOk w with
    | false => rfl
    | true =>
      obtain ⟨hl, hv, hn⟩ := emCheck_zero hc
      simp only [Bool.not_true, Bool.false_eq_true, if_false]
      rw [if_neg (by decide)]
      refine then_ex l.length (fun (t : List ApiSpan) i => (t, i)) (fun t => t) (fun i t => t = ((l.take i).filter (emPart v w)).map ApiEmptying.Mass) [] rfl rfl (by omega) (fun i t hi ht => ?_) (fun t _ => by (try simp only); rw [if_neg (by omega)]) (fun t ht => ?_)
      · have h3 : I64 ((i : Int) + 1) := by unfold I64; omega
        have hfl := List.length_filter_le (emPart v w) (l.take i)
        rw [List.length_take] at hfl
        have htl : t.length ≤ 600 := by rw [ht, List.length_map]; omega
        refine ⟨_, ?_, rfl⟩
        unfold m_emptying_in callIf
        try simp only
        rw [if_pos (by omega), ck_true ⟨by omega, by omega⟩, ix_nat hi, take_succ_get hi, List.filter_append, List.map_append, ← ht]
        have hp : emPart v w l[i] = ((decide (l[i].Vehicle = v) && !l[i].Void) && (decide (w.From ≤ l[i].At) && decide (l[i].At < w.To))) := by
          unfold emPart
          cases l[i].Void <;> cases decide (l[i].Vehicle = v) <;> cases decide (w.From ≤ l[i].At) <;> rfl
        cases hb : (decide (l[i].Vehicle = v) && !l[i].Void) with
        | false =>
          rw [hb, Bool.false_and] at hp
          simp only [Bool.false_eq_true, if_false, Bool.false_and]
          rw [andThen_next, ck_true h3]
          simp [hp]
        | true =>
          rw [hb, Bool.true_and] at hp
          simp only [if_true, Option.bind_some, Bool.true_and]
          rw [← hp]
          cases hpp : emPart v w l[i] with
          | true => simp only [if_true]; rw [ck_true (by simp; omega), andThen_next, ck_true h3]; simp [hpp]
          | false => simp only [Bool.false_eq_true, if_false]; rw [andThen_next, ck_true h3]; simp [hpp]
      · rw [List.take_length] at ht
        have hfl := List.length_filter_le (emPart v w) l
        rw [sum_eq (l := t) (by rw [ht, List.length_map]; omega) (by rw [ht, List.length_map]; omega) fun s hs => by
          rw [ht] at hs
          obtain ⟨x, hx, rfl⟩ := List.mem_map.1 hs
          exact mass_of_fault (hv x ((List.mem_filter.1 hx).1)), Option.bind_some, ht]
  · rw [if_pos hc, if_pos hc]

/-! ### The chapter's examples -/
def l4 : List ApiEmptying := [⟨1, 0, 0, 1000, ⟨10, 12⟩, false⟩, ⟨2, 0, 0, 1060, ⟨10, 12⟩, false⟩, ⟨3, 0, 0, 1120, ⟨10, 12⟩, false⟩, ⟨4, 0, 0, 1121, ⟨10, 12⟩, false⟩]
def l4v : List ApiEmptying := [⟨1, 0, 0, 1000, ⟨10, 12⟩, true⟩, ⟨2, 0, 0, 1060, ⟨10, 12⟩, false⟩, ⟨3, 0, 0, 1120, ⟨10, 12⟩, false⟩, ⟨4, 0, 0, 1121, ⟨10, 12⟩, false⟩]
theorem records_eq {N : Nat} (hN : 5 ≤ N) : m_recyclinglaw18_records N [1000, 1060, 1120, 1121] = some l4 := by
  obtain ⟨n, rfl⟩ : ∃ n, N = n + 5 := ⟨N - 5, by omega⟩
  unfold m_recyclinglaw18_records
  simp [loopM, andThen, ck, ix, I64, l4]
theorem eAwake_eq {N : Nat} (hN : 700 < N) : m_recyclinglaw18_awake N = some true := by
  unfold m_recyclinglaw18_awake
  rw [records_eq (by omega), Option.bind_some, progECounts_eq hN, Option.bind_some, progMass_eq hN, Option.bind_some, progOf_eq hN _ (by simp; omega) (by simp), Option.bind_some, ck_true (by decide), show List.set l4 (Int.toNat 0) (ApiEmptying.mk ((ix l4 0).ID) ((ix l4 0).Container) ((ix l4 0).Vehicle) ((ix l4 0).At) ((ix l4 0).Mass) true) = l4v from rfl, progECounts_eq hN, Option.bind_some, progECheck_eq (by omega)]
  rw [show emCounts l4 120 = ([0, 3], 0) from by decide +kernel, show emMass l4 0 ⟨1000, 1121⟩ = (⟨30, 36⟩, 0) from by decide +kernel, show emOf l4 [⟨0, 4, ⟨0, 1121⟩⟩] 4 ⟨0, 2000⟩ 120 = ([0], 0) from by decide +kernel, show emCounts l4v 120 = ([1], 0) from by decide +kernel, show emCheck l4v 1 1 = 0 from by decide +kernel]
  rw [eSame_eq (by simp; omega) (by simp), eSame_eq (by simp; omega) (by simp), eSame_eq (by simp; omega) (by simp)]
  rfl
theorem emCounts_len (l : List ApiEmptying) (gap : Int) : (emCounts l gap).1.length ≤ 512 := by
  unfold emCounts
  split
  · simp
  · rename_i h
    split
    · simp
    · have := emCheck_zero (by simpa using h)
      exact Nat.le_trans (emSel_len l gap) this.1
theorem emOf_len (l : List ApiEmptying) (a : List ApiAssign) (h : Int) (w : ApiWindow) (gap : Int) : (emOf l a h w gap).1.length ≤ 512 := by
  unfold emOf
  split
  · simp
  · split
    · simp
    · exact Nat.le_trans (List.length_filter_le _ _) (emCounts_len l gap)
theorem lawEChecks_eq {N : Nat} (hN : 700 < N) (l : List ApiEmptying) (c v : Int) : m_recyclinglaw18_EmptyingChecks N l c v = some true := by
  unfold m_recyclinglaw18_EmptyingChecks m_recyclinglaw18_great
  rw [Option.bind_some, eAwake_eq hN, progECheck_eq (by omega), refECheck_eq (by omega)]
  split
  · rfl
  · simp [callIf]
theorem lawESelects_eq {N : Nat} (hN : 700 < N) (l : List ApiEmptying) (gap : Int) : m_recyclinglaw18_EmptyingSelects N l gap = some true := by
  unfold m_recyclinglaw18_EmptyingSelects m_recyclinglaw18_great
  have := emCounts_len l gap
  rw [Option.bind_some, eAwake_eq hN, progECounts_eq hN, refCounts_eq hN]
  split
  · rfl
  · rw [Option.bind_some, Option.bind_some, eSame_eq (by omega) (by omega)]
    simp [callIf]
theorem lawEOwners_eq {N : Nat} (hN : 700 < N) (l : List ApiEmptying) (a : List ApiAssign) (x : Recyclinglaw18Ask) : m_recyclinglaw18_EmptyingOwners N l a x = some true := by
  unfold m_recyclinglaw18_EmptyingOwners m_recyclinglaw18_great
  have := emOf_len l a x.Household x.When x.Gap
  rw [Option.bind_some, eAwake_eq hN]
  split
  · rfl
  · rename_i h
    have ha : a.length ≤ 60 := by
      simp only [Bool.or_eq_true, decide_eq_true_eq, not_or] at h
      omega
    rw [progOf_eq hN _ (by omega) (by omega), refOf_eq hN _ (by omega) (by omega), Option.bind_some, Option.bind_some, eSame_eq (by omega) (by omega)]
    simp [callIf]
theorem lawEMasses_eq {N : Nat} (hN : 700 < N) (l : List ApiEmptying) (v : Int) (w : ApiWindow) : m_recyclinglaw18_EmptyingMasses N l v w = some true := by
  unfold m_recyclinglaw18_EmptyingMasses m_recyclinglaw18_great
  rw [Option.bind_some, eAwake_eq hN, progMass_eq hN, refMass_eq hN]
  split
  · rfl
  · simp [callIf]
end Go.Proofs.Ytkepegnnkmmefaa
