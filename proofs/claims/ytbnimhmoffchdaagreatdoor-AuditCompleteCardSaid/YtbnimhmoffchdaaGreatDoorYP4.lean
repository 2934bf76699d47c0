/- Layer 54 in plain words: the base items of a window, the program and the reference alike. -/
import Derived.Test.YtbnimhmoffchdaaGreatDoorKD
import Derived.Test.YtbnimhmoffchdaaGreatDoorYAcc4
namespace Go.Proofs.YtbnimhmoffchdaaGreatDoor

def baseN (l : List ApiTariff) (w : ApiWindow) (i : Nat) : Int := (if i + 1 < l.length then min w.To (ix l ((i : Int) + 1)).From else w.To) - max w.From (ix l (i : Int)).From
def baseI (l : List ApiTariff) (w : ApiWindow) (i : Nat) : List ApiItem := if 0 < baseN l w i then [⟨1, (i : Int), baseN l w i, (ix l (i : Int)).Base, baseN l w i * (ix l (i : Int)).Base⟩] else []
def baseL (l : List ApiTariff) (w : ApiWindow) (k : Nat) : List ApiItem := (List.range k).flatMap (baseI l w)
theorem baseL_succ (l : List ApiTariff) (w : ApiWindow) (k : Nat) : baseL l w (k + 1) = baseL l w k ++ baseI l w k := by
 unfold baseL
 rw [List.range_succ, List.flatMap_append, List.flatMap_cons, List.flatMap_nil, List.append_nil]
theorem baseI_len (l : List ApiTariff) (w : ApiWindow) (k : Nat) : (baseI l w k).length ≤ 1 := by
 unfold baseI
 split <;> simp
theorem baseL_len (l : List ApiTariff) (w : ApiWindow) : ∀ k, (baseL l w k).length ≤ k
 | 0 => Nat.le_refl _
 | k + 1 => by
  have h1 := baseL_len l w k
  have h2 := baseI_len l w k
  rw [baseL_succ, List.length_append]
  omega
def winBad (w : ApiWindow) : Prop := w.From < 0 ∨ w.To < w.From ∨ 36525 < w.To
instance (w : ApiWindow) : Decidable (winBad w) := by unfold winBad; infer_instance
theorem winBad_bool (w : ApiWindow) : (((decide (w.From < 0)) || (decide (w.To < w.From))) || (decide (36525 < w.To))) = decide (winBad w) := by
 rw [Bool.eq_iff_iff, decide_eq_true_iff]
 unfold winBad
 simp [or_assoc]
noncomputable def baseSpec (l : List ApiTariff) (w : ApiWindow) : List ApiItem × Int :=
 if tarSpec l ≠ 0 then ([], tarSpec l) else if winBad w then ([], 1) else if w.From < w.To ∧ w.From < (ix l 0).From then ([], 7) else (baseL l w l.length, 0)
theorem tarSpec_all {l : List ApiTariff} (h : tarSpec l = 0) : ∀ x ∈ l, (0 ≤ x.From ∧ x.From ≤ 36524) ∧ usB x = true ∧ 0 ≤ x.Base ∧ x.Base ≤ 100000 := fun x hx => by
 unfold tarSpec at h
 split at h
 ·omega
 ·split at h
  ·omega
  ·split at h
   ·rename_i e he
    unfold fstBad at he
    obtain ⟨y, _, hy⟩ := List.exists_of_findSome?_eq_some he
    split at hy
    ·cases hy
    ·injection hy with hy
     rw [← hy] at h
     exact absurd h ‹_›
   ·rename_i he
    have h0 := fstBad_none he x hx
    unfold tarFault at h0
    split at h0
    ·omega
    ·rename_i hn
     have hu : usB x = true := by
      cases hu : usB x with
      | true => rfl
      | false => exact absurd (.inr (.inr hu)) hn
     have hu' := hu
     unfold usB at hu'
     simp only [Bool.and_eq_true, decide_eq_true_eq] at hu'
     exact ⟨by omega, hu, by omega, by omega⟩
theorem tar_ix {l : List ApiTariff} (h : tarSpec l = 0) {i : Nat} (hi : i < l.length) : (0 ≤ (ix l (i : Int)).From ∧ (ix l (i : Int)).From ≤ 36524) ∧ 0 ≤ (ix l (i : Int)).Base ∧ (ix l (i : Int)).Base ≤ 100000 := by
 have := tarSpec_all h _ (List.getElem_mem hi)
 rw [ix_nat hi]
 exact ⟨this.1, this.2.2⟩
theorem tar_ix1 {l : List ApiTariff} (h : tarSpec l = 0) {i : Nat} (hi : i + 1 < l.length) : 0 ≤ (ix l ((i : Int) + 1)).From ∧ (ix l ((i : Int) + 1)).From ≤ 36524 := by
 have := (tar_ix h hi).1
 rwa [Int.natCast_add] at this
theorem mul_boxB {a b : Int} (ha : 0 ≤ a) (ha' : a ≤ 36525) (hb : 0 ≤ b) (hb' : b ≤ 100000) : 0 ≤ a * b ∧ a * b ≤ 3652500000 := by
 refine ⟨Int.mul_nonneg ha hb, ?_⟩
 have := Int.mul_le_mul ha' hb' hb (by omega : (0 : Int) ≤ 36525)
 omega
theorem baseN_le {l : List ApiTariff} {w : ApiWindow} (hw : ¬ winBad w) (i : Nat) : baseN l w i ≤ 36525 := by
 unfold winBad at hw
 unfold baseN
 split <;> omega
theorem baseProg_eq {N : Nat} (hN : 40 < N) (l : List ApiTariff) (w : ApiWindow) : m_tariff_Base N l w = some (baseSpec l w) := by
 unfold m_tariff_Base baseSpec m_tariff_priced
 rw [tarProg_eq hN, Option.bind_some]
 by_cases hz : tarSpec l ≠ 0
 ·rw [if_pos hz, if_pos hz]
 ·rw [if_neg hz, if_neg hz, winBad_bool]
  have hz' := Decidable.not_not.1 hz
  obtain ⟨h0, h8, _⟩ := tarSpec_zero hz'
  by_cases hw : winBad w
  ·rw [if_pos (decide_eq_true hw), if_pos hw]
  ·rw [if_neg (by simpa using hw), if_neg hw, ck_true (fun _ => by omega), ← Bool.decide_and]
   by_cases hf : w.From < w.To ∧ w.From < (ix l 0).From
   ·rw [if_pos (decide_eq_true hf), if_pos hf]
   ·rw [if_neg (by simpa using hf), if_neg hf, Option.bind_some]
    refine then_ex l.length (fun (t : List ApiItem) i => (t, i)) (fun t => t) (fun i t => t = baseL l w i) [] rfl rfl (by omega) (fun i t hi ht => ⟨baseL l w (i + 1), ?_, rfl⟩) (fun t _ => by simp only; rw [if_neg (by omega)]) (fun t ht => by rw [ht])
    have h1 : ((i : Int)) < (l.length : Int) := by omega
    have h2 : I64 ((i : Int) + 1) := by unfold I64; omega
    have h3 := baseL_len l w i
    have h4 := tar_ix hz' hi
    have hw' := hw
    unfold winBad at hw'
    rw [ht, baseL_succ]
    simp only
    rw [if_pos h1, ck_true ⟨by omega, h1⟩, ck_true h2]
    have hb1 : I64 (baseN l w i) := by
     unfold I64 baseN
     split
     ·rename_i hl
      have := tar_ix1 hz' hl
      omega
     ·omega
    have hb2 := baseN_le (l := l) hw i
    by_cases hl : i + 1 < l.length
    focus rw [if_pos (by omega), ck_true h2, ck_true ⟨by omega, by omega⟩, andThen_next, show min w.To (ix l ((i : Int) + 1)).From - max w.From (ix l (i : Int)).From = baseN l w i from by unfold baseN; rw [if_pos hl]]
    rotate_left
    focus rw [if_neg (by omega), andThen_next, show w.To - max w.From (ix l (i : Int)).From = baseN l w i from by unfold baseN; rw [if_neg hl]]
    all_goals
     rw [ck_true hb1]
     unfold baseI m_tariff_priced_1
     by_cases hp : 0 < baseN l w i
     ·have h5 := mul_boxB (Int.le_of_lt hp) hb2 h4.2.1 h4.2.2
      rw [if_pos hp, if_pos hp, ck_true (by unfold I64; omega), Option.bind_some, ck_true (by simp only [List.length_cons, List.length_nil]; omega), andThen_next, ck_true h2]
     ·rw [if_neg hp, if_neg hp, andThen_next, ck_true h2, List.append_nil]
theorem baseRef_eq {N : Nat} (hN : 36600 < N) (l : List ApiTariff) (w : ApiWindow) : m_recyclingref53_Base N l w = some (baseSpec l w) := by
 unfold m_recyclingref53_Base baseSpec
 rw [tarRef_eq (by omega), Option.bind_some]
 by_cases hz : tarSpec l ≠ 0
 ·rw [if_pos hz, if_pos hz]
 ·rw [if_neg hz, if_neg hz, winBad_bool]
  have hz' := Decidable.not_not.1 hz
  obtain ⟨h0, h8, _⟩ := tarSpec_zero hz'
  by_cases hw : winBad w
  ·rw [if_pos (decide_eq_true hw), if_pos hw]
  ·rw [if_neg (by simpa using hw), if_neg hw, ck_true (fun _ => by omega), ← Bool.decide_and]
   by_cases hf : w.From < w.To ∧ w.From < (ix l 0).From
   ·rw [if_pos (decide_eq_true hf), if_pos hf]
   ·rw [if_neg (by simpa using hf), if_neg hf]
    refine then_ex l.length (fun (t : List ApiItem) i => (t, i)) (fun t => t) (fun i t => t = baseL l w i) [] rfl rfl (by omega) (fun i t hi ht => ⟨baseL l w (i + 1), ?_, rfl⟩) (fun t _ => by simp only; rw [if_neg (by omega)]) (fun t ht => by rw [ht])
    have h1 : ((i : Int)) < (l.length : Int) := by omega
    have h2 : I64 ((i : Int) + 1) := by unfold I64; omega
    have h3 := baseL_len l w i
    have h4 := tar_ix hz' hi
    have hw' := hw
    unfold winBad at hw'
    have hb2 := baseN_le (l := l) hw i
    have h6 : (0 : Int) ≤ (i : Int) ∧ (i : Int) < (l.length : Int) := ⟨by omega, h1⟩
    rw [ht, baseL_succ]
    simp only
    rw [if_pos h1]
    rw [then_ex (res := some (.next (baseL l w i ++ baseI l w i))) (w.To - w.From).toNat (fun (t : Int) j => (t, w.From + j)) (fun t => t) (fun j t => t = max 0 ((if i + 1 < l.length then min (w.From + (j : Int)) (ix l ((i : Int) + 1)).From else w.From + (j : Int)) - max w.From (ix l (i : Int)).From)) 0 (by simp) (by split <;> omega) (by omega) (fun j t hj ht => ?_) (fun t _ => by simp only; rw [if_neg (by omega)]) (fun t ht => ?_)]
    ·rw [andThen_next, ck_true h2]
    ·try simp only
     have h7 : I64 (w.From + (j : Int) + 1) := by unfold I64; omega
     rw [if_pos (by omega), ck_true h6, ck_true (fun _ => h2), ck_true (fun _ => h2)]
     refine ⟨max 0 ((if i + 1 < l.length then min (w.From + ((j + 1 : Nat) : Int)) (ix l ((i : Int) + 1)).From else w.From + ((j + 1 : Nat) : Int)) - max w.From (ix l (i : Int)).From), ?_, rfl⟩
     by_cases hl : i + 1 < l.length
     ·have h8 := tar_ix1 hz' hl
      rw [if_pos hl] at ht ⊢
      rw [ck_true (fun _ => ⟨by omega, by omega⟩)]
      have e1 : decide ((i : Int) + 1 = (l.length : Int)) = false := by simp; omega
      rw [e1, Bool.false_or]
      by_cases hc : (ix l (i : Int)).From ≤ w.From + (j : Int) ∧ w.From + (j : Int) < (ix l ((i : Int) + 1)).From
      ·rw [← Bool.decide_and, if_pos (decide_eq_true hc), ck_true (by unfold I64; omega), andThen_next, ck_true h7, ht, Int.natCast_add, Int.natCast_one, Int.add_assoc]
       congr 3
       omega
      ·rw [← Bool.decide_and, if_neg (by simpa using hc), andThen_next, ck_true h7, ht, Int.natCast_add, Int.natCast_one, Int.add_assoc]
       congr 3
       omega
     ·rw [if_neg hl] at ht ⊢
      have e1 : decide ((i : Int) + 1 = (l.length : Int)) = true := by simp; omega
      rw [e1, Bool.not_true, Bool.and_false, ck_true (fun h => by cases h), Bool.true_or, Bool.and_true]
      by_cases hc : (ix l (i : Int)).From ≤ w.From + (j : Int)
      ·rw [if_pos (decide_eq_true hc), ck_true (by unfold I64; omega), andThen_next, ck_true h7, ht, Int.natCast_add, Int.natCast_one, Int.add_assoc]
       congr 3
       omega
      ·rw [if_neg (by simpa using hc), andThen_next, ck_true h7, ht, Int.natCast_add, Int.natCast_one, Int.add_assoc]
       congr 3
       omega
    ·try simp only
     have e2 : t = max 0 (baseN l w i) := by
      rw [ht]
      unfold baseN
      split <;> omega
     rw [e2]
     unfold baseI
     by_cases hp : 0 < baseN l w i
     ·have h5 := mul_boxB (Int.le_of_lt hp) hb2 h4.2.1 h4.2.2
      have e3 : max 0 (baseN l w i) = baseN l w i := by omega
      rw [e3, if_pos hp, if_pos hp, ck_true h6, ck_true h6, ck_true (by unfold I64; omega), ck_true (by simp only [List.length_cons, List.length_nil]; omega)]
     ·rw [if_neg (by omega), if_neg hp, List.append_nil]
end Go.Proofs.YtbnimhmoffchdaaGreatDoor
