/- Layer 59 in plain words: a fee's list covers the costs where no finding says otherwise. -/
import Derived.Test.YtbnimhmoffchdaaDoorKD
import Derived.Test.YtbnimhmoffchdaaDoorALCovers
namespace Go.Proofs.YtbnimhmoffchdaaDoor
attribute [local instance] jfTrue

theorem ck_pos {α : Type} {p : Prop} [Decidable p] {x : Option α} (h : p) : ck p x = x := if_pos h
/-- slices.Equal -/
theorem equal_eq {N : Nat} {a b : List Int} (ha : a.length < N) (hb : a.length < 4611686018427387904) : m_slices_Equal N a b = some (decide (a = b)) := by
  unfold m_slices_Equal
  by_cases hl : (a.length : Int) ≠ (b.length : Int)
  · rw [if_pos hl]
    have : a ≠ b := fun h => hl (by rw [h])
    rw [decide_eq_false this]
  · rw [if_neg hl]
    have hl' : a.length = b.length := by omega
    refine then_exE a.length (fun (_ : Unit) (i : Int) => i) (fun _ => ()) (fun i _ => a.take i = b.take i) (fun r => r = false ∧ a ≠ b) () rfl (by simp) ha (fun i t hi hv => ?_) (fun t _ => ?_) (fun t ht => ?_) (fun r hr => ?_)
    · have hib : i < b.length := by omega
      rw [if_pos (by omega), ck_pos (by omega), ck_pos (by omega), ix_nat hi, ix_nat hib]
      by_cases h : a[i] ≠ b[i]
      · right
        rw [if_pos h]
        refine ⟨_, rfl, rfl, fun e => h ?_⟩
        subst e
        rfl
      · left
        rw [if_neg h, ck_pos (by unfold I64; omega)]
        refine ⟨(), rfl, ?_⟩
        rw [take_succ_get hi, take_succ_get hib, hv, Classical.not_not.1 h]
    · rw [if_neg (by omega)]
    · rw [List.take_length, hl', List.take_length] at ht
      rw [decide_eq_true ht]
    · rw [hr.1, decide_eq_false hr.2]

def msum (m : Int) : List ApiFee → Int
  | [] => 0
  | x :: l => (if x.Material = m then x.Amount else 0) + msum m l
theorem msum_append (m : Int) : ∀ a b : List ApiFee, msum m (a ++ b) = msum m a + msum m b
  | [], b => by show msum m b = 0 + _; omega
  | x :: a, b => by show _ + msum m (a ++ b) = (_ + msum m a) + _; rw [msum_append m a b]; omega
theorem msum_one (m : Int) (x : ApiFee) : msum m [x] = if x.Material = m then x.Amount else 0 := by show _ + (0 : Int) = _; omega
def okA (x : ApiFee) : Bool := decide (0 ≤ x.Amount) && decide (x.Amount ≤ 1000000000000)
def inR (n : Nat) (x : ApiFee) : Bool := decide (0 ≤ x.Material) && decide (x.Material < n)
def gF (m : Int) (t : Int × Bool) (x : ApiFee) : Int × Bool :=
  if x.Material ≠ m then t else if ((t.2 && decide (0 ≤ x.Amount)) && decide (x.Amount ≤ 1000000000000)) = true then (t.1 + x.Amount, (t.2 && decide (0 ≤ x.Amount)) && decide (x.Amount ≤ 1000000000000)) else (t.1, (t.2 && decide (0 ≤ x.Amount)) && decide (x.Amount ≤ 1000000000000))
theorem gF_eq (m : Int) (t : Int × Bool) (x : ApiFee) : gF m t x = if x.Material ≠ m then t else if (t.2 && okA x) = true then (t.1 + x.Amount, true) else (t.1, false) := by
  unfold gF okA
  rw [← Bool.and_assoc]
  split
  · rfl
  · split
    · rename_i h; rw [h]
    · rename_i h
      rw [Bool.not_eq_true] at h
      rw [h]
/-- What a material's fees come to. -/
theorem gF_fold (m : Int) : ∀ (l : List ApiFee) (t : Int × Bool), (l.foldl (gF m) t).2 = (t.2 && l.all fun x => decide (x.Material ≠ m) || okA x) ∧ ((∀ x ∈ l, x.Material = m → okA x = true) → t.2 = true → (l.foldl (gF m) t).1 = t.1 + msum m l)
  | [], t => ⟨by simp, fun _ _ => by show t.1 = t.1 + 0; omega⟩
  | x :: l, t => by
    obtain ⟨h1, h2⟩ := gF_fold m l (gF m t x)
    rw [List.foldl_cons]
    constructor
    · rw [h1, List.all_cons, ← Bool.and_assoc]
      congr 1
      rw [gF_eq]
      by_cases h : x.Material ≠ m
      · rw [if_pos h, decide_eq_true h]; simp
      · rw [if_neg h, decide_eq_false h, Bool.false_or]
        split
        · rename_i h; exact h.symm
        · rename_i h; rw [Bool.not_eq_true] at h; exact h.symm
    · intro hx ht
      have h3 := hx x (List.mem_cons_self ..)
      have h4 : (gF m t x).2 = true ∧ (gF m t x).1 = t.1 + (if x.Material = m then x.Amount else 0) := by
        rw [gF_eq]
        by_cases h : x.Material ≠ m
        · rw [if_pos h, if_neg h]; exact ⟨ht, by omega⟩
        · have hm : x.Material = m := Classical.not_not.1 h
          rw [if_neg h, if_pos (show (t.2 && okA x) = true by rw [ht, h3 hm]; rfl), if_pos hm]; exact ⟨rfl, rfl⟩
      rw [h2 (fun y hy => hx y (List.mem_cons_of_mem _ hy)) h4.1, h4.2]
      show _ = t.1 + ((if x.Material = m then x.Amount else 0) + msum m l)
      omega
/-- The fees of material j come to its cost. -/
def okM (l : List ApiFee) (costs : List Int) (j : Nat) : Prop := (l.foldl (gF j) ((0 : Int), true)).2 = true ∧ (l.foldl (gF j) ((0 : Int), true)).1 = costs.getD j 0
theorem gF_bound (m : Int) (i : Nat) (t : Int × Bool) (x : ApiFee) (h : 0 ≤ t.1 ∧ t.1 ≤ (i : Int) * 1000000000000) : 0 ≤ (gF m t x).1 ∧ (gF m t x).1 ≤ ((i + 1 : Nat) : Int) * 1000000000000 := by
  rw [gF_eq]
  by_cases h1 : x.Material ≠ m
  · rw [if_pos h1]; omega
  · rw [if_neg h1]
    split
    · rename_i h2
      rw [Bool.and_eq_true] at h2
      have := h2.2
      unfold okA at this
      rw [Bool.and_eq_true, decide_eq_true_eq, decide_eq_true_eq] at this
      dsimp only
      omega
    · dsimp only
      omega
theorem ex_pair {α : Type} {o : Option (List α × Int)} (P : List α → Prop) (h : ∃ r, o = some r ∧ (r.2 = 0 ∧ P r.1)) : ∃ F, o = some (F, 0) ∧ P F := by
  obtain ⟨⟨F, z⟩, h1, h2, h3⟩ := h
  exact ⟨F, by rw [h1]; rw [show z = 0 from h2], h3⟩
theorem fees_eq (p : ApiBooks) (hc : p.Costs.length ≤ 16) (hf : p.Fees.length ≤ 512) : ∃ F : List ApiFinding, m_audit_Fees 10000 p = some (F, 0) ∧ (F = [] ↔ (∀ j, j < p.Costs.length → okM p.Fees p.Costs j) ∧ ∀ x ∈ p.Fees, inR p.Costs.length x = true) := by
  unfold m_audit_Fees
  rw [if_neg (by rw [decide_eq_false (by omega), decide_eq_false (by omega)]; decide)]
  unfold m_audit_collector
  rw [Option.bind_some]
  refine ex_pair (fun F => (F = [] ↔ (∀ j, j < p.Costs.length → okM p.Fees p.Costs j) ∧ ∀ x ∈ p.Fees, inR p.Costs.length x = true)) ?_
  refine then_postE (N := 10000) (fun (r : List ApiFinding × Int) => r.2 = 0 ∧ (r.1 = [] ↔ (∀ j, j < p.Costs.length → okM p.Fees p.Costs j) ∧ ∀ x ∈ p.Fees, inR p.Costs.length x = true)) p.Costs.length (fun (F : List ApiFinding) (i : Int) => (F, i)) (fun F => F) (fun i F => F.length ≤ i ∧ (F = [] ↔ ∀ j, j < i → okM p.Fees p.Costs j)) [] rfl ⟨by simp, by simp⟩ (by omega) (fun i F hi hv => .inl ?_) (fun F _ => ?_) (fun F hF => ?_)
  · dsimp only
    rw [if_pos (by omega), ck_pos (by omega)]
    rw [loop_foldl p.Fees (fun (t : Int × Bool) k => (t.1, t.2, k)) (gF i) (fun t => (t.1, t.2)) (fun k t => 0 ≤ t.1 ∧ t.1 ≤ (k : Int) * 1000000000000) ((0 : Int), true) rfl (by simp) (fun k t hk ht => ⟨?_, gF_bound i k t _ ht⟩) (fun t _ => ?_) (by omega)]
    · rw [andThen_next]
      dsimp only
      rw [ix_nat hi]
      have hok : okM p.Fees p.Costs i ↔ ((p.Fees.foldl (gF i) ((0 : Int), true)).2 = true ∧ (p.Fees.foldl (gF i) ((0 : Int), true)).1 = p.Costs[i]) := by
        unfold okM
        rw [List.getD_eq_getElem?_getD, List.getElem?_eq_getElem hi]
        rfl
      by_cases h : ((!(p.Fees.foldl (gF i) ((0 : Int), true)).2) || (decide ((p.Fees.foldl (gF i) ((0 : Int), true)).1 ≠ p.Costs[i]))) = true
      · rw [if_pos h]
        unfold m_audit_collector_1
        rw [ck_pos (by simp; omega), Option.bind_some, andThen_next, ck_pos (by unfold I64; omega)]
        refine ⟨_, rfl, by simp; omega, ?_⟩
        simp only [List.append_eq_nil_iff, List.cons_ne_nil, and_false, false_iff]
        intro hall
        have := hok.1 (hall i (by omega))
        rw [this.1, this.2] at h
        simp at h
      · rw [if_neg h, andThen_next, ck_pos (by unfold I64; omega)]
        refine ⟨_, rfl, by omega, ?_⟩
        rw [hv.2]
        have h' : okM p.Fees p.Costs i := hok.2 (by simpa using h)
        constructor
        · intro ha j hj
          by_cases hji : j = i
          · rw [hji]; exact h'
          · exact ha j (by omega)
        · intro ha j hj
          exact ha j (by omega)
    · dsimp only
      rw [if_pos (by omega), ck_pos (by omega), ix_nat hk]
      by_cases h1 : p.Fees[k].Material ≠ i
      · rw [if_pos h1, andThen_next, ck_pos (by unfold I64; omega)]
        rw [gF, if_pos h1]
      · rw [if_neg h1]
        by_cases h2 : ((t.2 && decide (0 ≤ p.Fees[k].Amount)) && decide (p.Fees[k].Amount ≤ 1000000000000)) = true
        · rw [if_pos h2, ck_pos (by simp at h2; unfold I64; omega), andThen_next, ck_pos (by unfold I64; omega)]
          rw [gF, if_neg h1, if_pos h2]
        · rw [if_neg h2, andThen_next, ck_pos (by unfold I64; omega)]
          rw [gF, if_neg h1, if_neg h2]
    · dsimp only
      rw [if_neg (by omega)]
  · dsimp only
    rw [if_neg (by omega)]
  · refine then_postE (N := 10000) _ p.Fees.length (fun (F : List ApiFinding) (i : Int) => (F, i)) (fun F => F) (fun i F => F.length ≤ 16 + i ∧ (F = [] ↔ (∀ j, j < p.Costs.length → okM p.Fees p.Costs j) ∧ ∀ x ∈ p.Fees.take i, inR p.Costs.length x = true)) F rfl ⟨by omega, by simpa using hF.2⟩ (by omega) (fun i G hi hv => .inl ?_) (fun G _ => ?_) (fun G hG => ?_)
    · dsimp only
      rw [if_pos (by omega), ck_pos (by omega), ix_nat hi]
      by_cases h : ((decide (p.Fees[i].Material < 0)) || (decide ((p.Costs.length : Int) ≤ p.Fees[i].Material))) = true
      · rw [if_pos h]
        unfold m_audit_collector_1
        rw [ck_pos (by simp; omega), Option.bind_some, andThen_next, ck_pos (by unfold I64; omega)]
        refine ⟨_, rfl, by simp; omega, ?_⟩
        simp only [List.append_eq_nil_iff, List.cons_ne_nil, and_false, false_iff]
        intro hall
        have := hall.2 p.Fees[i] ((mem_take_succ hi).2 (.inr rfl))
        unfold inR at this
        simp at this h
        omega
      · rw [if_neg h, andThen_next, ck_pos (by unfold I64; omega)]
        refine ⟨_, rfl, by omega, ?_⟩
        rw [hv.2]
        have h' : inR p.Costs.length p.Fees[i] = true := by
          unfold inR
          simp at h ⊢
          omega
        constructor
        · rintro ⟨ha, hb⟩
          refine ⟨ha, fun x hx => ?_⟩
          rcases (mem_take_succ hi).1 hx with hx | hx
          · exact hb x hx
          · rw [hx]; exact h'
        · rintro ⟨ha, hb⟩
          exact ⟨ha, fun x hx => hb x ((mem_take_succ hi).2 (.inl hx))⟩
    · dsimp only
      rw [if_neg (by omega)]
    · refine ⟨_, rfl, rfl, ?_⟩
      have := hG.2
      rw [List.take_length] at this
      exact this
end Go.Proofs.YtbnimhmoffchdaaDoor
