/- The example of layer 51 holds; the first laws in plain words. -/
import Derived.Test.YtimmifkdocjljaaAucP3
import Derived.Test.YtimmifkdocjljaaAucLChecks
import Derived.Test.YtimmifkdocjljaaAucLAccounts
namespace Go.Proofs.Ytimmifkdocjljaa
open Go.Sort

def exL : List ApiBid := [(ApiBid.mk 1 10 2), (ApiBid.mk 2 8 1), (ApiBid.mk 3 8 2)]
theorem ex_sort {u : List AuctionUnit} (h : u.Pairwise fun a b => (!(ltOf unitCmp) b a) = true) : unitCmp_sorted u = u := List.mergeSort_of_pairwise h
theorem ex_u0 : unitsF exL 0 = [⟨10, 0⟩, ⟨10, 0⟩, ⟨8, 1⟩, ⟨8, 2⟩, ⟨8, 2⟩] := by decide
theorem ex_u5 : unitsF exL 5 = [⟨10, 0⟩, ⟨10, 0⟩, ⟨8, 1⟩, ⟨8, 2⟩, ⟨8, 2⟩] := by decide
theorem ex_u9 : unitsF exL 9 = [⟨10, 0⟩, ⟨10, 0⟩] := by decide
theorem ex_check : checkF exL = 0 := by decide
theorem ex_a : runAll exL 3 0 = (⟨[2, 1, 0], 8⟩, 0) := by
  unfold runAll
  rw [ex_check, if_neg (by decide), if_neg (by decide)]
  unfold runF
  rw [ex_u0, ex_sort (by decide)]
  rfl
theorem ex_b : runAll exL 6 5 = (⟨[2, 1, 2], 5⟩, 0) := by
  unfold runAll
  rw [ex_check, if_neg (by decide), if_neg (by decide)]
  unfold runF
  rw [ex_u5, ex_sort (by decide)]
  rfl
theorem ex_c : runAll exL 3 9 = (⟨[2, 0, 0], 9⟩, 0) := by
  unfold runAll
  rw [ex_check, if_neg (by decide), if_neg (by decide)]
  unfold runF
  rw [ex_u9, ex_sort (by decide)]
  rfl
theorem awake_eq {N : Nat} (hN : 7000 < N) : m_recyclinglaw51_awake N = some true := by
  unfold m_recyclinglaw51_awake
  have h64 : 64 < N := by omega
  simp only [show [(ApiBid.mk 1 10 2), (ApiBid.mk 2 8 1), (ApiBid.mk 3 8 2)] = exL from rfl, progRun_eq hN, ex_a, ex_b, ex_c, Option.bind_some, progRev_eq h64, progGain_eq h64, progCheck_eq h64, ex_check, progHolds_eq hN]
  rw [show revF ⟨[2, 1, 0], 8⟩ = (24, 0) from by decide, show gainF ⟨[2, 0, 0], 9⟩ 0 10 = (2, 0) from by decide]
  have hh : ∀ o, holdsF exL 3 0 o = sameF ⟨[2, 1, 0], 8⟩ o := fun o => by unfold holdsF; rw [ex_a]; simp
  simp only [hh]
  rw [same_eq _ _ (by decide) (by simp; omega), same_eq _ _ (by decide) (by simp; omega), same_eq _ _ (by decide) (by simp; omega)]
  simp [sameF]
theorem lawChecks_eq {N : Nat} (hN : 7000 < N) (l : List ApiBid) : m_recyclinglaw51_AuctionChecks N l = some true := by
  unfold m_recyclinglaw51_AuctionChecks
  rw [awake_eq hN, progCheck_eq (by omega), refCheck_eq (by omega)]
  split
  · rfl
  · simp [callIf]
theorem lawAccounts_eq {N : Nat} (hN : 7000 < N) (o : ApiOutcome) (i worth : Int) : m_recyclinglaw51_AuctionAccounts N o i worth = some true := by
  unfold m_recyclinglaw51_AuctionAccounts
  rw [awake_eq hN]
  split
  · rfl
  · simp [callIf, progRev_eq (show 64 < N by omega), refRev_eq (show 64 < N by omega), progGain_eq (show 64 < N by omega), refGain_eq (show 64 < N by omega)]
end Go.Proofs.Ytimmifkdocjljaa
