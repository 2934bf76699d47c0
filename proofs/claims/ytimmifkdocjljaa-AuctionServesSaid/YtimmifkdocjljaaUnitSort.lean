/- slices.SortFunc on the units of an auction: the row sorted by price, downwards, then by bid. -/
import Derived.Test.YtimmifkdocjljaaAuc2
import Derived.Test.YtimmifkdocjljaaDSort
import Derived.Test.YtimmifkdocjljaaShelf2
namespace Go.Proofs.Ytimmifkdocjljaa
open Go.RowKit Go.Shelf Go.Sort

def cmpI (a b : Int) : Int := if a < b then -1 else if b < a then 1 else 0
theorem compare_eq (N : Nat) (a b : Int) : m_cmp_Compare N a b = some (cmpI a b) := by
  unfold m_cmp_Compare m_cmp_isNaN cmpI
  simp
  split
  · rfl
  · split <;> rfl
theorem or2_eq {N : Nat} (hN : 3 ≤ N) (a b : Int) : m_cmp_Or N [a, b] = some (if a ≠ 0 then a else b) := by
  obtain ⟨n, rfl⟩ : ∃ n, N = n + 3 := ⟨N - 3, by omega⟩
  unfold m_cmp_Or
  by_cases ha : a = 0
  · by_cases hb : b = 0
    · simp [loopM, andThen, ck, ix, I64, ha, hb]
    · simp [loopM, andThen, ck, ix, I64, ha, hb]
  · simp [loopM, andThen, ck, ix, ha]
def unitCmp (a b : AuctionUnit) : Int := if cmpI b.price_ a.price_ ≠ 0 then cmpI b.price_ a.price_ else cmpI a.bid_ b.bid_
theorem asked1_eq {N : Nat} (hN : 3 ≤ N) (a b : AuctionUnit) : m_auction_asked_1 N a b = some (unitCmp a b) := by
  unfold m_auction_asked_1 unitCmp
  simp only [compare_eq, Option.bind_some, or2_eq hN]
theorem unit_lt (a b : AuctionUnit) : ltOf unitCmp a b = decide (b.price_ < a.price_ ∨ a.price_ = b.price_ ∧ a.bid_ < b.bid_) := by
  unfold ltOf unitCmp cmpI
  rw [Bool.eq_iff_iff]
  simp only [decide_eq_true_eq]
  repeat' split
  all_goals omega
theorem unit_swo : SWO (ltOf unitCmp) where
  irrefl x := by rw [unit_lt]; simp
  trans x y z h1 h2 := by rw [unit_lt] at *; simp only [decide_eq_true_eq] at *; omega
  ntrans x y z h1 h2 := by rw [unit_lt] at *; simp only [decide_eq_false_iff_not] at *; omega
theorem unit_anti (x y : AuctionUnit) (h1 : ltOf unitCmp x y = false) (h2 : ltOf unitCmp y x = false) : x = y := by
  rw [unit_lt] at *
  simp only [decide_eq_false_iff_not] at *
  obtain ⟨a, b⟩ := x
  obtain ⟨c, d⟩ := y
  simp only at *
  have e1 : a = c := by omega
  have e2 : b = d := by omega
  rw [e1, e2]
def unitCmp_sorted (l : List AuctionUnit) : List AuctionUnit := l.mergeSort fun x y => !(ltOf unitCmp) y x
theorem unitCmp_sort (N : Nat) {w0 w : World} {H : List HE} (kk : Nat) {A : Option Addr} {n c : Nat} {l : List AuctionUnit} (hN : 3 ≤ N) (hkk : H[kk]? = some (ownE 54 2 encAuctionUnit A n c l)) (hlen : l.length < 4611686018427387904) (hw : Hs w0 H w) :
    Calls Try.prog 32 [.slice A n c, .func (.func 33) #[] #[]].toArray w fun x w' => x = .returned (.tuple #[]) ∧ Hs w0 (H.set kk (ownE 54 2 encAuctionUnit A n c (unitCmp_sorted l))) w' :=
  sort_own Try.sortUnit 2 Try.isAgg54 Try.sizeOf54 encAuctionUnit encAuctionUnit_len encAuctionUnit_one unitCmp unit_swo unit_anti 33 54 (enters_of Try.func33 (by kernel_rfl) rfl)
    (fun x y w => (m_auction_asked_1_ok N w x y _ (asked1_eq hN x y)).mono fun e w' ⟨_, he, hw'⟩ => ⟨he, hw'⟩) kk hkk hlen hw
end Go.Proofs.Ytimmifkdocjljaa
