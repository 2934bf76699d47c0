/- Accounts: the tariff of a day, items, the program and the reference alike. -/
import Derived.Test.YtbnimhmoffchdaaGreatDoorYAcc3
import Derived.Test.YtbnimhmoffchdaaGreatDoorZR2
namespace Go.Proofs.YtbnimhmoffchdaaGreatDoor

/-! ### The version that is valid on a day -/
def atP (l : List ApiTariff) (d : Int) (r : Int × Int) : Prop :=
 (tarSpec l ≠ 0 ∧ r = (0, tarSpec l)) ∨ (tarSpec l = 0 ∧ ((d < 0 ∨ 36524 < d) ∧ r = (0, 1) ∨ ¬ (d < 0 ∨ 36524 < d) ∧ ((r = (0, 7) ∧ ∀ j : Nat, j < l.length → d < (ix l (j : Int)).From) ∨
   ∃ k : Nat, r = ((k : Int), 0) ∧ k < l.length ∧ (ix l (k : Int)).From ≤ d ∧ ∀ j : Nat, k < j → j < l.length → d < (ix l (j : Int)).From)))
theorem atP_unique {l : List ApiTariff} {d : Int} {r s : Int × Int} (hr : atP l d r) (hs : atP l d s) : r = s := by
 rcases hr with ⟨a, b⟩ | ⟨a, hr⟩
 ·rcases hs with ⟨a', b'⟩ | ⟨a', _⟩
  ·rw [b, b']
  ·exact absurd a' a
 ·rcases hs with ⟨a', b'⟩ | ⟨_, hs⟩
  ·exact absurd a a'
  ·rcases hr with ⟨c, e⟩ | ⟨c, hr⟩
   ·rcases hs with ⟨_, e'⟩ | ⟨c', _⟩
    ·rw [e, e']
    ·exact absurd c c'
   ·rcases hs with ⟨c', _⟩ | ⟨_, hs⟩
    ·exact absurd c' c
    ·rcases hr with ⟨e, h⟩ | ⟨k, e, h1, h2, h3⟩
     ·rcases hs with ⟨e', _⟩ | ⟨k', e', h1', h2', _⟩
      ·rw [e, e']
      ·have := h k' h1'; omega
     ·rcases hs with ⟨e', h'⟩ | ⟨k', e', h1', h2', h3'⟩
      ·have := h' k h1; omega
      ·have : k = k' := by
        rcases Nat.lt_trichotomy k k' with q | q | q
        ·have := h3 k' q h1'; omega
        ·exact q
        ·have := h3' k q h1; omega
       rw [e, e', this]
theorem atProg {N : Nat} (hN : 40 < N) (l : List ApiTariff) (d : Int) : ∃ r, m_tariff_At N l d = some r ∧ atP l d r := by
 unfold m_tariff_At m_tariff_between
 rw [tarProg_eq hN, Option.bind_some]
 by_cases hz : tarSpec l ≠ 0
 ·rw [if_pos hz]; exact ⟨_, rfl, .inl ⟨hz, rfl⟩⟩
 ·have hz' := Decidable.not_not.1 hz
  obtain ⟨h0, h8, _⟩ := tarSpec_zero hz'
  rw [if_neg hz, Option.bind_some]
  by_cases hd : d < 0 ∨ 36524 < d
  ·have hB : (!(decide (0 ≤ d) && decide (d ≤ 36524))) = true := by simp only [Bool.not_eq_true', Bool.and_eq_false_iff, decide_eq_false_iff_not]; omega
   rw [if_pos hB]
   exact ⟨_, rfl, .inr ⟨hz', .inl ⟨hd, rfl⟩⟩⟩
  ·have hB : ¬ (!(decide (0 ≤ d) && decide (d ≤ 36524))) = true := by simp only [Bool.not_eq_true', Bool.and_eq_false_iff, decide_eq_false_iff_not]; omega
   rw [if_neg hB, ck_true (by unfold I64; omega)]
   refine then_postE _ l.length (fun (_ : Unit) i => (l.length : Int) - 1 - i) (fun _ => ()) (fun i _ => ∀ j : Nat, l.length ≤ j + i → j < l.length → d < (ix l (j : Int)).From) () (by omega) (fun j a b => by omega) (by omega) (fun i t hi ht => ?_) (fun t _ => by (try simp only); rw [if_neg (by omega)]) (fun t ht => ⟨_, rfl, .inr ⟨hz', .inr ⟨hd, .inl ⟨rfl, fun j hj => ht j (by omega) hj⟩⟩⟩⟩)
   have e : (l.length : Int) - 1 - (i : Int) = ((l.length - 1 - i : Nat) : Int) := by omega
   try simp only
   rw [if_pos (by omega), ck_true ⟨by omega, by omega⟩, ck_true (by unfold I64; omega), e]
   by_cases hf : (ix l ((l.length - 1 - i : Nat) : Int)).From ≤ d
   ·rw [if_pos hf]
    exact .inr ⟨_, rfl, .inr ⟨hz', .inr ⟨hd, .inr ⟨l.length - 1 - i, rfl, by omega, hf, fun j a b => ht j (by omega) b⟩⟩⟩⟩
   ·rw [if_neg hf]
    refine .inl ⟨(), ?_, fun j a b => ?_⟩
    ·have : ((l.length - 1 - i : Nat) : Int) - 1 = (l.length : Int) - 1 - ((i : Int) + 1) := by omega
     rw [this]
    ·rcases Nat.lt_or_ge (j + i) l.length with h | h
     ·have : j = l.length - 1 - i := by omega
      subst this
      omega
     ·exact ht j h b
theorem atRef {N : Nat} (hN : 40 < N) (l : List ApiTariff) (d : Int) : ∃ r, m_recyclingref53_At N l d = some r ∧ atP l d r := by
 unfold m_recyclingref53_At
 rw [tarRef_eq hN, Option.bind_some]
 by_cases hz : tarSpec l ≠ 0
 ·rw [if_pos hz]; exact ⟨_, rfl, .inl ⟨hz, rfl⟩⟩
 ·have hz' := Decidable.not_not.1 hz
  obtain ⟨h0, h8, hinc⟩ := tarSpec_zero hz'
  rw [if_neg hz]
  simp only [Bool.or_eq_true, decide_eq_true_eq]
  by_cases hd : d < 0 ∨ 36524 < d
  ·rw [if_pos hd]
   exact ⟨_, rfl, .inr ⟨hz', .inl ⟨hd, rfl⟩⟩⟩
  ·rw [if_neg hd, ck_true ⟨by omega, by omega⟩]
   have hmono : ∀ j : Nat, j < l.length → (ix l 0).From ≤ (ix l (j : Int)).From := fun j => by
    induction j with
    | zero => exact fun _ => Int.le_refl _
    | succ j ih =>
     intro hj
     have h1 := ih (by omega)
     have h2 := hinc j hj
     rw [Int.natCast_add, show ((1 : Nat) : Int) = 1 from rfl]
     omega
   by_cases h7 : d < (ix l 0).From
   ·rw [if_pos h7]
    exact ⟨_, rfl, .inr ⟨hz', .inr ⟨hd, .inl ⟨rfl, fun j hj => by have := hmono j hj; omega⟩⟩⟩⟩
   ·rw [if_neg h7]
    have h00 : (ix l ((0 : Nat) : Int)).From ≤ d := by
     show (ix l 0).From ≤ d
     omega
    refine then_postE _ l.length (fun (t : Int) i => (t, i)) (fun t => t) (fun i t => ∃ k : Nat, t = (k : Int) ∧ k < l.length ∧ (ix l (k : Int)).From ≤ d ∧ ∀ j : Nat, k < j → j < i → d < (ix l (j : Int)).From) 0 rfl ⟨0, rfl, h0, h00, fun j a b => by omega⟩ (by omega) (fun i t hi ⟨k, k1, k2, k3, k4⟩ => .inl ?_) (fun t _ => by simp only; rw [if_neg (by omega)]) (fun t ⟨k, k1, k2, k3, k4⟩ => ⟨_, rfl, .inr ⟨hz', .inr ⟨hd, .inr ⟨k, by rw [k1], k2, k3, k4⟩⟩⟩⟩)
    simp only
    rw [if_pos (by omega), ck_true ⟨by omega, by omega⟩]
    by_cases hf : (ix l (i : Int)).From ≤ d
    ·rw [if_pos hf, andThen_next, ck_true (by unfold I64; omega)]
     exact ⟨_, rfl, i, rfl, hi, hf, fun j a b => by omega⟩
    ·rw [if_neg hf, andThen_next, ck_true (by unfold I64; omega)]
     refine ⟨_, rfl, k, k1, k2, k3, fun j a b => ?_⟩
     rcases Nat.lt_or_ge j i with h | h
     ·exact k4 j a h
     ·have : j = i := by omega
      subst this
      omega
theorem at_same {N : Nat} (hN : 40 < N) (l : List ApiTariff) (d : Int) : m_recyclingref53_At N l d = m_tariff_At N l d := by
 obtain ⟨r, e, h⟩ := atProg hN l d
 obtain ⟨s, f, g⟩ := atRef hN l d
 rw [e, f, atP_unique h g]

/-! ### Items of an emptying -/
def masB (s : ApiSpan) : Bool := ((decide (0 ≤ s.Lo)) && (decide (s.Lo ≤ s.Hi))) && (decide (s.Hi ≤ 1073741824))
def wgtSpec (t : ApiTariff) (s : ApiSpan) : Int × Int := if (usB t && masB s) = true then (max 0 (Int.tdiv s.Lo 1000 - t.Free), 0) else (0, 1)
theorem wgt_ok {t : ApiTariff} {s : ApiSpan} (h : (usB t && masB s) = true) : I64 s.Lo ∧ I64 (Int.tdiv s.Lo 1000 - t.Free) ∧ Int.tdiv s.Lo 1000 - t.Free ≤ 1073742 := by
 rw [Bool.and_eq_true] at h
 have h1 := usB_iff h.1
 have h2 := h.2
 unfold masB at h2
 simp only [Bool.and_eq_true, decide_eq_true_eq] at h2
 rw [Int.tdiv_eq_ediv_of_nonneg h2.1.1]
 unfold I64
 omega
theorem wgtProg_eq (N : Nat) (t : ApiTariff) (s : ApiSpan) : m_tariff_Weight N t s = some (wgtSpec t s) := by
 unfold m_tariff_Weight m_tariff_weighed wgtSpec
 rw [usable_eq, Option.bind_some]
 change callIf _ (some (masB s)) _ = _
 by_cases h : (usB t && masB s) = true
 ·obtain ⟨h1, h2, _⟩ := wgt_ok h
  rw [if_pos h]
  rw [Bool.and_eq_true] at h
  rw [h.1, h.2]
  show ck _ _ = _
  rw [ck_true h1, ck_true h2]
 ·rw [if_neg h]
  cases hu : usB t with
  | false => rfl
  | true =>
   cases hm : masB s with
   | false => rfl
   | true => rw [hu, hm] at h; exact absurd rfl h
theorem wgtRef_eq (N : Nat) (t : ApiTariff) (s : ApiSpan) : m_recyclingref53_Weight N t s = some (wgtSpec t s) := by
 unfold m_recyclingref53_Weight m_recyclingref53_Mass wgtSpec
 rw [refUsable_eq, Option.bind_some]
 change callIf _ (some (masB s)) _ = _
 by_cases h : (usB t && masB s) = true
 ·obtain ⟨h1, h2, _⟩ := wgt_ok h
  rw [if_pos h]
  rw [Bool.and_eq_true] at h
  rw [h.1, h.2]
  show ck _ _ = _
  rw [ck_true h1, ck_true h2]
  by_cases h3 : Int.tdiv s.Lo 1000 - t.Free < 0
  ·rw [if_pos h3, andThen_next]
   congr 2
   omega
  ·rw [if_neg h3, andThen_next]
   congr 2
   omega
 ·rw [if_neg h]
  cases hu : usB t with
  | false => rfl
  | true =>
   cases hm : masB s with
   | false => rfl
   | true => rw [hu, hm] at h; exact absurd rfl h
theorem mul_boxT {a b : Int} (ha : 0 ≤ a) (ha' : a ≤ 1073742) (hb : 0 ≤ b) (hb' : b ≤ 100000) : 0 ≤ a * b ∧ a * b ≤ 107374200000 := by
 refine ⟨Int.mul_nonneg ha hb, ?_⟩
 have := Int.mul_le_mul ha' hb' hb (by omega : (0 : Int) ≤ 1073742)
 omega
def itSpec (t : ApiTariff) (x : ApiEmptying) : List ApiItem × Int :=
 if (wgtSpec t x.Mass).2 ≠ 0 ∨ x.ID < 1 ∨ 1000000 < x.ID then ([], 1)
 else if 0 < (wgtSpec t x.Mass).1 then ([⟨2, x.ID, 1, t.Empty, t.Empty⟩, ⟨3, x.ID, (wgtSpec t x.Mass).1, t.Kilo, (wgtSpec t x.Mass).1 * t.Kilo⟩], 0)
 else ([⟨2, x.ID, 1, t.Empty, t.Empty⟩], 0)
theorem wgtSpec_ok {t : ApiTariff} {s : ApiSpan} (h : (wgtSpec t s).2 = 0) : (0 ≤ (wgtSpec t s).1 ∧ (wgtSpec t s).1 ≤ 1073742) ∧ (0 ≤ t.Empty ∧ t.Empty ≤ 100000) ∧ 0 ≤ t.Kilo ∧ t.Kilo ≤ 100000 := by
 unfold wgtSpec at h ⊢
 by_cases hb : (usB t && masB s) = true
 ·rw [if_pos hb]
  have h1 := wgt_ok hb
  rw [Bool.and_eq_true] at hb
  have h2 := usB_iff hb.1
  simp only
  omega
 ·rw [if_neg hb] at h
  exact absurd h (by decide)
theorem itProg_eq (N : Nat) (t : ApiTariff) (x : ApiEmptying) : m_tariff_Items N t x = some (itSpec t x) := by
 unfold m_tariff_Items m_tariff_priced m_tariff_priced_1 m_tariff_between itSpec
 rw [wgtProg_eq, Option.bind_some]
 by_cases hz : (wgtSpec t x.Mass).2 ≠ 0
 ·rw [if_pos (.inl hz)]
  simp only [callIf, hz, decide_true, Bool.not_true, Bool.false_eq_true, if_false, Bool.true_or, if_true, ne_eq, not_false_eq_true]
 ·have hz' := Decidable.not_not.1 hz
  obtain ⟨h1, h2, h3⟩ := wgtSpec_ok hz'
  simp only [callIf, hz', ne_eq, not_true, decide_false, Bool.not_false, if_true, Option.bind_some, Bool.false_or]
  by_cases hi : x.ID < 1 ∨ 1000000 < x.ID
  ·have hB : (!(decide (1 ≤ x.ID) && decide (x.ID ≤ 1000000))) = true := by simp only [Bool.not_eq_true', Bool.and_eq_false_iff, decide_eq_false_iff_not]; omega
   rw [if_pos hB, if_pos (.inr hi)]
  ·have hB : ¬ (!(decide (1 ≤ x.ID) && decide (x.ID ≤ 1000000))) = true := by simp only [Bool.not_eq_true', Bool.and_eq_false_iff, decide_eq_false_iff_not]; omega
   have m2 := mul_boxT h1.1 h1.2 h3.1 h3.2
   rw [if_neg hB, if_neg (fun h => h.elim (fun h => h) hi), Int.one_mul, ck_true (by unfold I64; omega), Option.bind_some]
   by_cases hw : 0 < (wgtSpec t x.Mass).1
   ·rw [if_pos hw, if_pos hw, ck_true (by unfold I64; omega), Option.bind_some, ck_true (by simp only [List.length_cons, List.length_nil]; omega), andThen_next]
    rfl
   ·rw [if_neg hw, if_neg hw, andThen_next]
theorem itRef_eq (N : Nat) (t : ApiTariff) (x : ApiEmptying) : m_recyclingref53_Items N t x = some (itSpec t x) := by
 unfold m_recyclingref53_Items itSpec
 rw [wgtRef_eq, Option.bind_some]
 simp only [Bool.or_eq_true, decide_eq_true_eq, or_assoc]
 by_cases hz : (wgtSpec t x.Mass).2 ≠ 0 ∨ x.ID < 1 ∨ 1000000 < x.ID
 ·rw [if_pos hz, if_pos hz]
 ·rw [if_neg hz, if_neg hz]
  obtain ⟨h1, h2, h3⟩ := wgtSpec_ok (Decidable.not_not.1 fun h => hz (.inl h))
  have m2 := mul_boxT h1.1 h1.2 h3.1 h3.2
  by_cases hw : 0 < (wgtSpec t x.Mass).1
  ·rw [if_pos hw, if_pos hw, ck_true (by unfold I64; omega), ck_true (by simp only [List.length_cons, List.length_nil]; omega), andThen_next]
   rfl
  ·rw [if_neg hw, if_neg hw, andThen_next]
end Go.Proofs.YtbnimhmoffchdaaGreatDoor
