/- What the laws on findings share: a function that returns findings and an error. -/
import Derived.Test.YtahnplemladjeaaDoorOpsB
import Derived.Test.YtahnplemladjeaaDoorExample
import Derived.Test.YtahnplemladjeaaDoorSame
namespace Go.Proofs.YtahnplemladjeaaDoor
open Go.RowKit

/-- Function f returns the findings fs, in memory of its own, and the error er. -/
def Finds (f : FuncId) (bk : List Value) (fs : List Fnd) (er : Int) (w : World) : Prop :=
  Calls Tryd.prog f #[.agg bk.toArray] w fun e w' => ∃ v, e = .returned (.tuple #[v, .int .i64 er]) ∧ w'.ownsRow w.heap.size 49 3 v fs.length (fs.flatMap fnC) ∧ Below w.heap.size w w'
theorem own_slice {w : World} {base : Nat} {e : TypeId} {k n : Nat} {v : Value} {xs : List Value} (h : w.ownsRow base e k v n xs) : ∃ A c, v = .slice A n c := by
  rcases h.2 with ⟨rfl, rfl⟩ | ⟨g, cap, cur, rfl, _⟩
  · exact ⟨_, _, rfl⟩
  · exact ⟨_, _, rfl⟩
theorem rd_later {α : Type} {w w' : World} {k : Nat} {R : α → List Value → Prop} {A : Option Addr} {xs : List α} (h : Rd w w.heap.size k R A xs) (hb : Below w.heap.size w w') : Rd w' w'.heap.size k R A xs := (h.below hb).more hb.size
theorem finds_full {f : FuncId} {bk : List Value} {w : World} (h : Calls Tryd.prog f #[.agg bk.toArray] w fun e w' => e = .returned (.tuple #[.slice none 0 0, .int .i64 8]) ∧ Below w.heap.size w w') : Finds f bk [] 8 w :=
  h.mono fun _ _ ⟨he, hb⟩ => ⟨_, he, World.ownsRow_nil _ _ _ _, hb⟩
theorem tab_below {w w' : World} {B : Nat} (ht : Tab w) (hb : Below B w w') (hB : w.heap.size ≤ B) : Tab w' := ht.below (hb.mono hB)
end Go.Proofs.YtahnplemladjeaaDoor
