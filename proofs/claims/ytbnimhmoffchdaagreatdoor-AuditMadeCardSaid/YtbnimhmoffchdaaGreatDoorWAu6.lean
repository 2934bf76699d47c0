/- Layer 59 in plain words: the findings on one bill, the program's way. -/
import Derived.Test.YtbnimhmoffchdaaGreatDoorWAu5
namespace Go.Proofs.YtbnimhmoffchdaaGreatDoor
attribute [local instance] jfTrue

def apps {γ : Type} (n : Nat) (g : Nat → List γ) : List γ := (List.range' 0 n).flatMap g
/-- A loop that appends at most one finding at each place. -/
theorem loop_app {γ ρ : Type} {f : List γ × Int → Option (Step (List γ × Int) ρ)} {N : Nat} (n : Nat) (g : Nat → List γ) (fin : List γ → ρ) (B : Nat) (F0 : List γ) (hF0 : F0.length ≤ B) (hg : ∀ i, i < n → (g i).length ≤ 1)
    (h : ∀ (i : Nat) F, i < n → F.length ≤ B + n → f (F, (i : Int)) = some (.next (F ++ g i, (i : Int) + 1))) (he : ∀ F, f (F, (n : Int)) = some (.done (fin F))) (hN : n < N) : loopM f N (F0, 0) = some (fin (F0 ++ apps n g)) := by
  have key : ∀ (k i : Nat) (F : List γ) (M : Nat), i + k = n → k < M → F.length ≤ B + i → loopM f M (F, (i : Int)) = some (fin (F ++ (List.range' i k).flatMap g)) := by
    intro k
    induction k with
    | zero =>
      intro i F M hi hM hF
      obtain ⟨M, rfl⟩ : ∃ m, M = m + 1 := ⟨M - 1, by omega⟩
      have : i = n := by omega
      subst this
      unfold loopM
      rw [he F]
      simp
    | succ k ih =>
      intro i F M hi hM hF
      obtain ⟨M, rfl⟩ : ∃ m, M = m + 1 := ⟨M - 1, by omega⟩
      have h1 := hg i (by omega)
      have := ih (i + 1) (F ++ g i) M (by omega) (by omega) (by rw [List.length_append]; omega)
      rw [Int.natCast_add] at this
      unfold loopM
      rw [h i F (by omega) (by omega)]
      dsimp only
      rw [List.range'_succ, List.flatMap_cons, ← List.append_assoc]
      exact this
  exact key n 0 F0 N (by omega) hN hF0
theorem apps_len {γ : Type} {g : Nat → List γ} : ∀ (n : Nat), (∀ i, i < n → (g i).length ≤ 1) → (apps n g).length ≤ n := by
  have key : ∀ (k i : Nat), (∀ j, j < i + k → (g j).length ≤ 1) → ((List.range' i k).flatMap g).length ≤ k := by
    intro k
    induction k with
    | zero => intro i _; simp
    | succ k ih =>
      intro i h
      have h1 := h i (by omega)
      have h2 := ih (i + 1) fun j hj => h j (by omega)
      rw [List.range'_succ, List.flatMap_cons, List.length_append]
      omega
  exact fun n h => key n 0 fun j hj => h j (by omega)
theorem apps_congr {γ : Type} {g g' : Nat → List γ} {n : Nat} (h : ∀ i, i < n → g i = g' i) : apps n g = apps n g' := by
  unfold apps
  rw [List.flatMap_def, List.flatMap_def]
  congr 1
  refine List.map_congr_left fun i hi => h i ?_
  have := List.mem_range'_1.1 hi
  omega
def one (c : Bool) (x : ApiFinding) : List ApiFinding := if c = true then [x] else []
theorem one_len (c : Bool) (x : ApiFinding) : (one c x).length ≤ 1 := by unfold one; split <;> simp
theorem collect_eq {F : List ApiFinding} {k a b : Int} (h : F.length ≤ 100000) : m_audit_collector_1 40000 k a b () F = some () := by
  unfold m_audit_collector_1
  rw [ck_yes (by simp; omega)]
noncomputable def gRight (a : ApiAccount) (b : ApiBill) (k : Int) (i : Nat) : List ApiFinding := one (!rightB a b (ix b.Items i)) ⟨11, k, i⟩
def gMiss (a : ApiAccount) (b : ApiBill) (k : Int) (cnt : List Int) (j : Nat) : List ApiFinding := one (!b.Items.any (emP (ix a.Emptyings (ix cnt j)).ID)) ⟨12, k, (ix a.Emptyings (ix cnt j)).ID⟩
def gChg (a : ApiAccount) (b : ApiBill) (k : Int) (cnt : List Int) (i : Nat) : List ApiFinding :=
  one (decide ((ix b.Items i).Kind = 2) && decide (chgI b (ix b.Items i).Ref = i) && ((recB a b (ix b.Items i).Ref && !cnt.contains (recI a (ix b.Items i).Ref)) && !decide (credS (ix b.Items i).Ref b.Items = 0))) ⟨13, k, (ix b.Items i).Ref⟩
noncomputable def itemsF (a : ApiAccount) (b : ApiBill) (base : List ApiItem) (cnt : List Int) (k : Int) : List ApiFinding :=
  one (!totB b) ⟨10, k, 0⟩ ++ apps b.Items.length (gRight a b k) ++ one (base.any fun x => !hasB b.Items x) ⟨12, k, 0⟩ ++ apps cnt.length (gMiss a b k cnt) ++ apps b.Items.length (gChg a b k cnt)
theorem missBase_eq (v : AuditInvoice) (hl : v.Bill.Items.length ≤ 512) (hb : v.base_.length ≤ 8) : m_slices_ContainsFunc_audit_invoice_items_1 40000 v.base_ () v = some (v.base_.any fun x => !hasB v.Bill.Items x) := by
  unfold m_slices_ContainsFunc_audit_invoice_items_1 m_slices_IndexFunc_audit_invoice_items_1
  refine contains_loop v.base_ (fun x => !hasB v.Bill.Items x) (fun i hi => ?_) (by rw [if_neg (by omega)]) (by omega)
  rw [if_pos (by omega), ck_yes (by omega), ix_nat hi]
  unfold m_audit_invoice_items_1
  dsimp only
  rw [contains_eq _ _ (by omega) (by omega), Option.bind_some, Option.bind_some, ck_yes (by unfold I64; omega)]
theorem has73_eq (l : List Int) (x : Int) (hl : l.length ≤ 600) : m_slices_Contains_73 40000 l x = some (l.contains x) := by
  unfold m_slices_Contains_73 m_slices_Index_126
  rw [contains_loop l (fun y => decide (y = x)) (fun i hi => ?_) (by rw [if_neg (by omega)]) (by omega)]
  · congr 1
    rw [Bool.eq_iff_iff]
    simp
  · rw [if_pos (by omega), ck_yes (by omega), ix_nat hi, ck_yes (by unfold I64; omega)]
    by_cases hx : x = l[i]
    · rw [if_pos hx, if_pos (by simpa using hx.symm)]
    · rw [if_neg hx, if_neg (by simpa using fun e => hx e.symm)]
end Go.Proofs.YtbnimhmoffchdaaGreatDoor
