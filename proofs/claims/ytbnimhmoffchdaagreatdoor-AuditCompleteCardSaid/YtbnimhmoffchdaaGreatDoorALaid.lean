/- The table that the rows list: what it says of memory, and a world in which it lies. -/
import Derived.Test.YtbnimhmoffchdaaGreatDoorDRo
import Derived.Test.YtbnimhmoffchdaaGreatDoorATab
import Derived.Test.YtbnimhmoffchdaaGreatDoorCards
import Derived.Lib.LaidTab
namespace Go.Proofs.YtbnimhmoffchdaaGreatDoor
open Go.ChangeShapes Go.WideShapes Go.ChangeAt Go.RowKit

/-- The list that the rows of this seat bear. -/
def laidList : List (String × DataW Unit) := [("math/bits.deBruijn32tab", Rows.laid_math_bits_deBruijn32tab), ("math/bits.deBruijn64tab", Rows.laid_math_bits_deBruijn64tab), ("internal/strconv.uint64pow10", Rows.laid_internal_strconv_uint64pow10)]
theorem laid_tail {P : Program} {x : String × DataW Unit} {r : List (String × DataW Unit)} {w : World} (h : laidMet P (x :: r) w) : laidMet P r w := by
 obtain ⟨ps, ⟨g, t, cs, fuel, p, q, _, _, _, _, hr, rfl⟩, hn, hc⟩ := h
 exact ⟨q, hr, (List.nodup_append.1 hn).2.1, fun b off hb => hc b off (by simp [hb])⟩
theorem gTab : Tryz.prog.globalNamed "internal/strconv.uint64pow10" = some 0 := by kernel_rfl
theorem tab_of_laid {W : World} (h : laidMetH Tryz.prog laidList W) : Tab W := by
 have h1 : laidMet Tryz.prog laidList W := h
 refine ⟨?_, rfl⟩
 exact Lib.tabIs_of_head (rest := []) gTab (by kernel_rfl) Tryz.underlying215 Tryz.underlying203 (by kernel_rfl) (by kernel_rfl) (laid_tail (laid_tail h1))

/-- A world for the witness: the settled one, the tables holding what their initialisers lay. -/
def setBlock0 (w : World) (g : Nat) (cs : Array Value) : World := { w with heap := w.heap.modify g fun
   | .cells _ t frozen => .cells cs t frozen
   | o => o }
def litsOf : DataW Unit → Array Value
 | .agg l => (l.map fun
   | .lit (.int k n) => Value.int k n
   | _ => .nilFunc).toArray
 | _ => #[]
noncomputable def laidWorld (os : Os) : World :=
 setBlock0 (setBlock0 (setBlock0 (World.holding Tryz.prog os ⟨#[], #[], []⟩) 0 (litsOf Rows.laid_internal_strconv_uint64pow10)) 1 (litsOf Rows.laid_math_bits_deBruijn32tab)) 2 (litsOf Rows.laid_math_bits_deBruijn64tab)
end Go.Proofs.YtbnimhmoffchdaaGreatDoor
