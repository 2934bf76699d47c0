/- Layer 54 in plain words: the bill of a household, the program and the reference alike. -/
import Derived.Test.YtbnimhmoffchdaaGreatDoorYPA
import Derived.Test.YtbnimhmoffchdaaGreatDoorYP4
import Derived.Test.YtbnimhmoffchdaaGreatDoorYEmP3
namespace Go.Proofs.YtbnimhmoffchdaaGreatDoor

theorem emFault_mono {x : ApiEmptying} {c : Int} (hc : c ≤ 256) (h : emFault x c 16 = 0) : emFault x 256 16 = 0 := by
 have := emFault_zero h
 unfold emFault
 rw [if_neg (by omega), if_neg (by omega), if_neg (by omega)]
theorem emCheck_mono {l : List ApiEmptying} {c : Int} (hc : c ≤ 256) (h : emCheck l c 16 = 0) : emCheck l 256 16 = 0 := by
 obtain ⟨h1, h2, h3⟩ := emCheck_zero h
 have hb : emBad l 256 16 = none := by
  unfold emBad
  rw [List.findSome?_eq_none_iff]
  intro x hx
  rw [if_pos (emFault_mono hc (h2 x hx))]
 unfold emCheck
 rw [if_neg (by omega), hb]
 simp only
 rw [if_pos h3]
/-! ### Accounts that are valid -/
noncomputable def bilSpec (a : ApiAccount) : Int :=
 if conSpec a.Containers 16 64 ≠ 0 then conSpec a.Containers 16 64 else if hhSpec a.Households a.Containers.length a.Assigns ≠ 0 then hhSpec a.Households a.Containers.length a.Assigns
 else if emCheck a.Emptyings a.Containers.length 16 ≠ 0 then emCheck a.Emptyings a.Containers.length 16 else if tarSpec a.Tariffs ≠ 0 then tarSpec a.Tariffs else if ((decide (a.Gap < 0)) || (decide (86400 < a.Gap))) = true then 1 else 0
theorem bilProg_eq (a : ApiAccount) : m_bill_Check 40000 a = some (bilSpec a) := by
 unfold m_bill_Check bilSpec
 rw [conProg_eq, Option.bind_some, hhProg_eq, Option.bind_some, progECheck_eq (by omega), Option.bind_some, tarProg_eq (by omega), Option.bind_some]
 (repeat' split) <;> rfl
theorem bilRef_eq (a : ApiAccount) : m_recyclingref54_Check 40000 a = some (bilSpec a) := by rw [bil_same, bilProg_eq]
theorem conSpec_zero {l : List ApiContainer} {m n : Int} (h : conSpec l m n = 0) : l.length ≤ 256 := by
 unfold conSpec at h
 split at h
 ·omega
 ·omega
theorem hhSpec_zero {l : List ApiHousehold} {m : Int} {s : List ApiAssign} (h : hhSpec l m s = 0) : s.length ≤ 512 := by
 unfold hhSpec at h
 split at h
 ·omega
 ·split at h
  ·exact absurd h ‹_›
  ·split at h
   ·omega
   ·omega
theorem bilSpec_zero {a : ApiAccount} (h : bilSpec a = 0) : a.Assigns.length ≤ 512 ∧ emCheck a.Emptyings 256 16 = 0 ∧ tarSpec a.Tariffs = 0 ∧ 0 ≤ a.Gap ∧ a.Gap ≤ 86400 := by
 unfold bilSpec at h
 split at h
 ·exact absurd h ‹_›
 ·rename_i h1
  split at h
  ·exact absurd h ‹_›
  ·rename_i h2
   split at h
   ·exact absurd h ‹_›
   ·rename_i h3
    split at h
    ·exact absurd h ‹_›
    ·rename_i h4
     split at h
     ·omega
     ·rename_i h5
      simp only [Bool.or_eq_true, decide_eq_true_eq, not_or] at h5
      have := conSpec_zero (Decidable.not_not.1 h1)
      exact ⟨hhSpec_zero (Decidable.not_not.1 h2), emCheck_mono (by omega) (Decidable.not_not.1 h3), Decidable.not_not.1 h4, by omega, by omega⟩
/-! ### Sums -/
def sumA (l : List ApiItem) : Int := sumP (fun _ => true) l
/-! ### The items of emptyings -/
noncomputable def atF (l : List ApiTariff) (d : Int) : Int × Int := (m_tariff_At 40000 l d).getD (0, 0)
theorem atF_eq (l : List ApiTariff) (d : Int) : m_tariff_At 40000 l d = some (atF l d) ∧ atP l d (atF l d) := by
 obtain ⟨r, e, h⟩ := atProg (N := 40000) (by omega) l d
 unfold atF
 rw [e]
 exact ⟨rfl, h⟩
noncomputable def emIt (a : ApiAccount) (i : Int) : List ApiItem := (itSpec (ix a.Tariffs (atF a.Tariffs (Int.tdiv (ix a.Emptyings i).At 86400)).1) (ix a.Emptyings i)).1
def secs (w : ApiWindow) : ApiWindow := ⟨w.From * 86400, w.To * 86400⟩
def mkIdx (a : ApiAccount) (h : Int) (w : ApiWindow) : List Int := (emOf a.Emptyings a.Assigns h (secs w) a.Gap).1
noncomputable def emItems (a : ApiAccount) (h : Int) (w : ApiWindow) : List ApiItem := (mkIdx a h w).flatMap (emIt a)
noncomputable def mkItems (a : ApiAccount) (h : Int) (w : ApiWindow) : List ApiItem := baseL a.Tariffs w a.Tariffs.length ++ emItems a h w
noncomputable def mkSpec (a : ApiAccount) (id h : Int) (w : ApiWindow) : ApiBill × Int :=
 if bilSpec a ≠ 0 then (noBill, bilSpec a) else if id < 1 ∨ 1000000 < id then (noBill, 1) else if h < 0 ∨ (a.Households.length : Int) ≤ h then (noBill, 7) else if winBad w then (noBill, 1)
 else if (baseSpec a.Tariffs w).2 ≠ 0 then (noBill, (baseSpec a.Tariffs w).2) else if 512 < (mkItems a h w).length then (noBill, 8) else if 1000000000000 < sumA (mkItems a h w) then (noBill, 2)
 else (⟨id, h, w, mkItems a h w, sumA (mkItems a h w)⟩, 0)
theorem emOf_ok {a : ApiAccount} (ha : bilSpec a = 0) {w : ApiWindow} (hw : ¬ winBad w) (h : Int) : (emOf a.Emptyings a.Assigns h (secs w) a.Gap).2 = 0 ∧ mkIdx a h w = (emSel a.Emptyings a.Gap).filter (emMine a.Emptyings a.Assigns h (secs w)) := by
 obtain ⟨_, h2, _, h4, h5⟩ := bilSpec_zero ha
 unfold winBad at hw
 have hc : emCounts a.Emptyings a.Gap = (emSel a.Emptyings a.Gap, 0) := by
  unfold emCounts
  rw [if_neg (by omega), if_neg (by omega)]
 have hk : winOk (secs w) = true := by
  unfold winOk secs
  simp only [Bool.and_eq_true, decide_eq_true_eq]
  omega
 unfold mkIdx emOf
 rw [hc]
 simp only
 rw [if_neg (by decide), hk, if_neg (by decide)]
 exact ⟨rfl, rfl⟩
theorem mkIdx_ok {a : ApiAccount} (ha : bilSpec a = 0) {w : ApiWindow} (hw : ¬ winBad w) {h i : Int} (hi : i ∈ mkIdx a h w) : (0 ≤ i ∧ i < a.Emptyings.length) ∧ w.From * 86400 ≤ (ix a.Emptyings i).At ∧ (ix a.Emptyings i).At < w.To * 86400 := by
 rw [(emOf_ok ha hw h).2, List.mem_filter] at hi
 refine ⟨emSel_mem hi.1, ?_⟩
 have := hi.2
 unfold emMine secs at this
 simp only [Bool.and_eq_true, decide_eq_true_eq] at this
 exact this.1
theorem mkIdx_len {a : ApiAccount} (ha : bilSpec a = 0) {w : ApiWindow} (hw : ¬ winBad w) (h : Int) : (mkIdx a h w).length ≤ 512 := by
 obtain ⟨_, h2, _⟩ := bilSpec_zero ha
 rw [(emOf_ok ha hw h).2]
 have h3 := List.length_filter_le (emMine a.Emptyings a.Assigns h (secs w)) (emSel a.Emptyings a.Gap)
 have h4 := emSel_len a.Emptyings a.Gap
 have h5 := (emCheck_zero h2).1
 omega
theorem em_ok {a : ApiAccount} (ha : bilSpec a = 0) {i : Int} (hi : 0 ≤ i ∧ i < a.Emptyings.length) : emFault (ix a.Emptyings i) 256 16 = 0 := by
 obtain ⟨_, h2, _⟩ := bilSpec_zero ha
 obtain ⟨k, rfl⟩ := Int.eq_ofNat_of_zero_le hi.1
 have hk : k < a.Emptyings.length := by omega
 rw [ix_nat hk]
 exact (emCheck_zero h2).2.1 _ (List.getElem_mem hk)
end Go.Proofs.YtbnimhmoffchdaaGreatDoor
