/- Layer 57 in plain words: more days, and what is just. -/
import Derived.Test.YtljogldcejcikaaCmpP3
import Derived.Test.YtljogldcejcikaaCmpLDays
import Derived.Test.YtljogldcejcikaaCmpLJust
namespace Go.Proofs.Ytljogldcejcikaa

theorem few_ex (a : ApiAccount) (b : ApiBill) : ∃ v, m_recyclinglaw57_few 10000 a b = some v ∧ (v = true → a.Emptyings.length ≤ 600 ∧ b.Items.length ≤ 600) := by
  unfold m_recyclinglaw57_few
  split
  · exact ⟨false, rfl, fun h => by cases h⟩
  · rename_i h
    simp only [Bool.or_eq_true, decide_eq_true_eq, not_or] at h
    refine then_postE _ a.Households.length (fun (_ : Unit) i => i) (fun _ => ()) (fun _ _ => True) () rfl trivial (by omega) (fun i t hi ht => ?_) (fun t _ => by (try simp only); rw [if_neg (by omega)]) (fun t ht => ?_)
    · have h1 : ((i : Int)) < (a.Households.length : Int) := by omega
      have h2 : I64 ((i : Int) + 1) := by unfold I64; omega
      try simp only
      rw [if_pos h1, ck_true ⟨by omega, h1⟩, ck_true h2]
      split
      · exact .inr ⟨false, rfl, fun h => by cases h⟩
      · exact .inl ⟨(), rfl, trivial⟩
    · try simp only
      refine then_postE _ a.Containers.length (fun (_ : Unit) i => i) (fun _ => ()) (fun _ _ => True) () rfl trivial (by omega) (fun i t hi ht => ?_) (fun t _ => by (try simp only); rw [if_neg (by omega)]) (fun t ht => ⟨true, rfl, fun _ => by omega⟩)
      have h1 : ((i : Int)) < (a.Containers.length : Int) := by omega
      have h2 : I64 ((i : Int) + 1) := by unfold I64; omega
      try simp only
      rw [if_pos h1, ck_true ⟨by omega, h1⟩, ck_true h2]
      split
      · exact .inr ⟨false, rfl, fun h => by cases h⟩
      · exact .inl ⟨(), rfl, trivial⟩
theorem days_core (e0 : Int) (b : ApiBill) (c : ApiComplaint) (g : Option Int) {d m : Int} (hd : 0 ≤ d) (hm : 0 ≤ m) (hs : d + m ≤ 36524) :
    (cmDec e0 b c g d).2 = (cmDec e0 b c g (d + m)).2 ∧
    ((cmDec e0 b c g d).1.Err = 31 → (cmDec e0 b c g d).2 = 0 ∧ (cmDec e0 b c g d).1.Credit = 0 ∧ ((cmDec e0 b c g (d + m)).1.Err = 31 ↔ (b.When.To + d + m) * 86400 < c.At) ∧ 0 ≤ b.When.To ∧ b.When.To ≤ 36525) ∧
    ((cmDec e0 b c g d).1.Err ≠ 31 → (cmDec e0 b c g d).1 = (cmDec e0 b c g (d + m)).1) := by
  unfold cmDec
  by_cases z1 : e0 ≠ 0
  · rw [if_pos z1, if_pos z1]; exact ⟨rfl, fun h => by simp at h, fun _ => rfl⟩
  · rw [if_neg z1, if_neg z1]
    by_cases z2 : d < 0 ∨ 36524 < d ∨ b.When.From < 0 ∨ b.When.To < b.When.From ∨ 36525 < b.When.To
    · rw [if_pos z2, if_pos (show d + m < 0 ∨ 36524 < d + m ∨ b.When.From < 0 ∨ b.When.To < b.When.From ∨ 36525 < b.When.To by omega)]; exact ⟨rfl, fun h => by simp at h, fun _ => rfl⟩
    · rw [if_neg z2, if_neg (show ¬ (d + m < 0 ∨ 36524 < d + m ∨ b.When.From < 0 ∨ b.When.To < b.When.From ∨ 36525 < b.When.To) by omega)]
      by_cases z3 : cmRead b.Items ≠ 0
      · rw [if_pos z3, if_pos z3]; exact ⟨rfl, fun h => by simp at h, fun _ => rfl⟩
      · rw [if_neg z3, if_neg z3]
        cases g with
        | none => exact ⟨rfl, fun h => by simp at h, fun _ => rfl⟩
        | some n =>
          simp only
          by_cases z4 : (b.When.To + d) * 86400 < c.At
          · rw [if_pos z4]
            by_cases z5 : (b.When.To + (d + m)) * 86400 < c.At
            · rw [if_pos z5]
              exact ⟨rfl, fun _ => ⟨rfl, rfl, ⟨fun _ => by omega, fun _ => rfl⟩, by omega, by omega⟩, fun _ => rfl⟩
            · rw [if_neg z5]
              by_cases z6 : 0 < n
              · rw [if_pos z6]; exact ⟨rfl, fun _ => ⟨rfl, rfl, ⟨fun h => by simp at h, fun h => by omega⟩, by omega, by omega⟩, fun h => absurd rfl h⟩
              · rw [if_neg z6]; exact ⟨rfl, fun _ => ⟨rfl, rfl, ⟨fun h => by simp at h, fun h => by omega⟩, by omega, by omega⟩, fun h => absurd rfl h⟩
          · rw [if_neg z4, if_neg (show ¬ (b.When.To + (d + m)) * 86400 < c.At by omega)]
            by_cases z6 : 0 < n
            · rw [if_pos z6]; exact ⟨rfl, fun h => by simp at h, fun _ => rfl⟩
            · rw [if_neg z6]; exact ⟨rfl, fun h => by simp at h, fun _ => rfl⟩
theorem lawCDays_eq (x : Recyclinglaw57Case) (more : Int) : m_recyclinglaw57_ComplaintDays 10000 x more = some true := by
  unfold m_recyclinglaw57_ComplaintDays
  obtain ⟨v, e, _⟩ := few_ex x.Account x.Bill
  rw [e, Option.bind_some, cmpAwake_10000, decide_eq, Option.bind_some, decide_eq, Option.bind_some, Option.bind_some]
  rw [ck_true (fun h => by
    simp only [Bool.not_eq_true', Bool.or_eq_false_iff, decide_eq_false_iff_not] at h
    unfold I64; omega)]
  split
  · rfl
  · rename_i h
    simp only [Bool.or_eq_true, decide_eq_true_eq, not_or] at h
    obtain ⟨k1, k2, k3⟩ := days_core (cmErr x.Account x.Bill x.Complaint) x.Bill x.Complaint (cmG x.Account x.Bill x.Complaint) (d := x.Days) (m := more) (by omega) (by omega) (by omega)
    rw [ck_true (by unfold I64; omega)]
    generalize cmDec (cmErr x.Account x.Bill x.Complaint) x.Bill x.Complaint (cmG x.Account x.Bill x.Complaint) x.Days = r at *
    generalize cmDec (cmErr x.Account x.Bill x.Complaint) x.Bill x.Complaint (cmG x.Account x.Bill x.Complaint) (x.Days + more) = s at *
    rw [if_neg (fun h => h k1)]
    by_cases z : r.1.Err = 31
    · obtain ⟨j1, j2, j3, j4, j5⟩ := k2 z
      rw [if_pos z, ck_true (by unfold I64; omega), ck_true (by unfold I64; omega), ck_true (by unfold I64; omega), j1, j2]
      have : ((decide (s.1.Err = 31)) == (decide ((((x.Bill.When.To + x.Days) + more) * 86400) < x.Complaint.At))) = true := by
        rw [beq_iff_eq]
        exact decide_eq_decide.2 j3
      rw [this]
      rfl
    · rw [if_neg z, k3 z]
      simp [callIf]

/-! ### Justice -/
theorem emKeep_void (l : List ApiEmptying) (gap : Int) : ∀ (L acc : List Int), (∀ x ∈ acc, (ix l x).Void = false) → ∀ x ∈ L.foldl (emKeep l gap) acc, (ix l x).Void = false
  | [], _, hv => hv
  | y :: L, acc, hv => by
    rw [List.foldl_cons]
    refine emKeep_void l gap L _ fun x hx => ?_
    unfold emKeep at hx
    split at hx
    · rename_i hk
      rcases List.mem_append.1 hx with hx | hx
      · exact hv x hx
      · rw [List.mem_singleton] at hx
        subst hx
        unfold emOk at hk
        simp only [Bool.and_eq_true, Bool.not_eq_true'] at hk
        exact hk.1
    · exact hv x hx
theorem counts_ok {l : List ApiEmptying} {gap : Int} (h : (emCounts l gap).2 = 0) : (l.map ApiEmptying.ID).Nodup ∧ ∀ x ∈ (emCounts l gap).1, (0 ≤ x ∧ x < l.length) ∧ (ix l x).Void = false := by
  unfold emCounts at h ⊢
  by_cases z : emCheck l 256 16 ≠ 0
  · rw [if_pos z] at h; exact absurd h z
  · rw [if_neg z] at h ⊢
    refine ⟨(emCheck_zero (Decidable.not_not.1 z)).2.2, ?_⟩
    split
    · intro x hx; cases hx
    · intro x hx
      refine ⟨?_, emKeep_void l gap _ _ (fun x hx => by cases hx) x hx⟩
      rcases emKeep_sub l gap (emOrder l) [] x hx with h | h
      · cases h
      · exact emOrder_mem.1 h
/-- What a granted credit rests on. -/
theorem granted {a : ApiAccount} {b : ApiBill} {c : ApiComplaint} {d : Int} (h2 : (cmDec (cmErr a b c) b c (cmG a b c) d).2 = 0) (h1 : (cmDec (cmErr a b c) b c (cmG a b c) d).1.Err = 0) :
    cmErr a b c = 0 ∧ (0 ≤ d ∧ d ≤ 36524 ∧ 0 ≤ b.When.From ∧ b.When.From ≤ b.When.To ∧ b.When.To ≤ 36525) ∧ cmRead b.Items = 0 ∧ ∃ n, cmG a b c = some n ∧ 0 < n ∧ ¬ (b.When.To + d) * 86400 < c.At ∧ cmDec (cmErr a b c) b c (cmG a b c) d = (⟨n, 0⟩, 0) := by
  unfold cmDec at h1 h2 ⊢
  by_cases z1 : cmErr a b c ≠ 0
  · rw [if_pos z1] at h2; exact absurd h2 z1
  · rw [if_neg z1] at h1 h2 ⊢
    by_cases z2 : d < 0 ∨ 36524 < d ∨ b.When.From < 0 ∨ b.When.To < b.When.From ∨ 36525 < b.When.To
    · rw [if_pos z2] at h2; exact absurd h2 (by decide)
    · rw [if_neg z2] at h1 h2 ⊢
      by_cases z3 : cmRead b.Items ≠ 0
      · rw [if_pos z3] at h2; exact absurd h2 z3
      · rw [if_neg z3] at h1 h2 ⊢
        cases hg : cmG a b c with
        | none => rw [hg] at h1; simp at h1
        | some n =>
          rw [hg] at h1 h2
          simp only at h1 h2 ⊢
          by_cases z4 : (b.When.To + d) * 86400 < c.At
          · rw [if_pos z4] at h1; exact absurd h1 (by decide)
          · rw [if_neg z4] at h1 ⊢
            by_cases z5 : 0 < n
            · rw [if_pos z5]
              exact ⟨Decidable.not_not.1 z1, by omega, Decidable.not_not.1 z3, n, rfl, z5, z4, rfl⟩
            · rw [if_neg z5] at h1; exact absurd h1 (by decide)
theorem cmG_some {a : ApiAccount} {b : ApiBill} {c : ApiComplaint} {n : Int} (h : cmG a b c = some n) : (cmDisputed b c).2 = true ∧ b.Items.any (emP (cmDisputed b c).1.Ref) = true ∧ ∃ i : Nat, emIx a.Emptyings (cmDisputed b c).1.Ref = some i ∧ (cmVersion a i).2 = 0 ∧ n = cmGround a c.Kind (i : Int) (ix a.Tariffs (cmVersion a i).1) (cmDisputed b c).1 (cmRest b.Items (cmDisputed b c).1.Ref).1 := by
  unfold cmG at h
  split at h
  · rename_i z
    refine ⟨z.1, z.2, ?_⟩
    cases hi : emIx a.Emptyings (cmDisputed b c).1.Ref with
    | none => rw [hi] at h; cases h
    | some i =>
      rw [hi] at h
      simp only at h
      split at h
      · cases h
      · injection h with h
        exact ⟨i, rfl, Decidable.not_not.1 ‹_›, h.symm⟩
  · cases h
theorem cmErr_zero {a : ApiAccount} {b : ApiBill} {c : ApiComplaint} (h : cmErr a b c = 0) : bilOf a = 0 ∧ cmCheck c = 0 ∧ c.Bill = b.ID := by
  unfold cmErr at h
  split at h
  · exact absurd h ‹_›
  · split at h
    · exact absurd h ‹_›
    · split at h
      · omega
      · exact ⟨Decidable.not_not.1 ‹_›, Decidable.not_not.1 ‹_›, Decidable.not_not.1 ‹_›⟩
theorem lawCJust_eq (x : Recyclinglaw57Case) : m_recyclinglaw57_ComplaintJust 10000 x = some true := by
  unfold m_recyclinglaw57_ComplaintJust
  obtain ⟨v, e, hv⟩ := few_ex x.Account x.Bill
  rw [e, Option.bind_some, cmpAwake_10000, decide_eq, Option.bind_some, progECounts_eq (by omega), Option.bind_some, Option.bind_some]
  by_cases hg : ((((!v) || (decide (x.Complaint.Kind = 3))) || (decide (x.Complaint.Item < 0))) || (decide ((List.length x.Bill.Items : Int) ≤ x.Complaint.Item))) = true
  · rw [if_pos hg]
  · rw [if_neg hg]
    simp only [Bool.or_eq_true, decide_eq_true_eq, not_or] at hg
    obtain ⟨⟨⟨g1, g2⟩, g3⟩, g4⟩ := hg
    by_cases hz : (cmDec (cmErr x.Account x.Bill x.Complaint) x.Bill x.Complaint (cmG x.Account x.Bill x.Complaint) x.Days).2 = 0 ∧ (emCounts x.Account.Emptyings x.Account.Gap).2 = 0
    · rw [if_neg (by simp [hz.1, hz.2])]
      obtain ⟨hn, hc⟩ := counts_ok hz.2
      have hl := emCounts_len x.Account.Emptyings x.Account.Gap
      have hno : ∀ y ∈ (emCounts x.Account.Emptyings x.Account.Gap).1, (ix x.Account.Emptyings y).ID = (ix x.Bill.Items x.Complaint.Item).Ref → (cmDec (cmErr x.Account x.Bill x.Complaint) x.Bill x.Complaint (cmG x.Account x.Bill x.Complaint) x.Days).1.Err = 0 → False := fun y hy hid herr => by
        obtain ⟨p1, _, p3, n, p4, p5, _⟩ := granted hz.1 herr
        obtain ⟨q1, q2, i, q3, q4, q5⟩ := cmG_some p4
        obtain ⟨r1, r2⟩ := emIx_some q3
        have hdis : (cmDisputed x.Bill x.Complaint).1 = ix x.Bill.Items x.Complaint.Item := by
          unfold cmDisputed; rw [if_neg (by omega)]
        rw [hdis] at r2
        have hyi : y = (i : Int) := id_inj hn (hc y hy).1.1 (hc y hy).1.2 (by omega) (by omega) (by rw [hid, r2])
        have hk := cmCheck_kind (cmErr_zero p1).2.1
        unfold cmGround at q5
        by_cases k1 : x.Complaint.Kind = 1
        · rw [if_pos k1, ← hyi, (hc y hy).2, if_neg (by decide)] at q5
          omega
        · rw [if_neg k1, if_pos (by omega), if_neg (fun h => h.2 (hyi ▸ hy))] at q5
          omega
      refine then_exE (emCounts x.Account.Emptyings x.Account.Gap).1.length (fun (_ : Unit) i => i) (fun _ => ()) (fun _ _ => True) (fun _ => False) () rfl trivial (by omega) (fun i t hi ht => ?_) (fun t _ => by (try simp only); rw [if_neg (by omega)]) (fun t _ => rfl) (fun r h => h.elim)
      have h1 : ((i : Int)) < ((emCounts x.Account.Emptyings x.Account.Gap).1.length : Int) := by omega
      have h2 : I64 ((i : Int) + 1) := by unfold I64; omega
      have hm := List.getElem_mem hi
      have hy := hc _ hm
      have hno' := hno _ hm
      left
      try simp only
      rw [if_pos h1, ck_true ⟨by omega, h1⟩, ck_true (fun _ => ⟨by omega, h1⟩), ix_nat hi]
      generalize (emCounts x.Account.Emptyings x.Account.Gap).1[i] = y at *
      rw [if_neg (by simp only [Bool.or_eq_true, decide_eq_true_eq]; omega), ck_true ⟨by omega, h1⟩, ck_true hy.1, ck_true ⟨by omega, by omega⟩, if_neg (by
        simp only [Bool.and_eq_true, decide_eq_true_eq]
        exact fun h => hno' h.1 h.2), ck_true h2]
      exact ⟨(), rfl, trivial⟩
    · rw [if_pos (by
        simp only [Bool.or_eq_true, decide_eq_true_eq]
        by_cases h : (cmDec (cmErr x.Account x.Bill x.Complaint) x.Bill x.Complaint (cmG x.Account x.Bill x.Complaint) x.Days).2 = 0
        · exact .inr fun h' => hz ⟨h, h'⟩
        · exact .inl h)]
end Go.Proofs.Ytljogldcejcikaa
