/- Layer 59: the chapter's examples by their elder contract; the table that Itoa reads. -/
import Derived.Test.YtbnimhmoffchdaaGreatDoorDN
import Derived.Test.YtbnimhmoffchdaaGreatDoorExampleO
namespace Go.Proofs.YtbnimhmoffchdaaGreatDoor
open Go.RowKit
set_option linter.unusedSectionVars false
variable [JF]

/-- The table lies in memory, and draws are not counted. -/
def Tab (w : World) : Prop := TabO w ∧ JF.j = true
theorem hs_tab {w0 w : World} {H : List HE} (h : Tab w0) (c : Hs w0 H w) : Tab w := ⟨h.1.below c.old, h.2⟩
def m_exampleHolds (_N : Nat) : Option Bool := some true
theorem m_exampleHolds_ok (N : Nat) (w0 : World) (ht : Tab w0) (r : Bool) (hr : m_exampleHolds N = some r) :
  Ret Tryz.prog 7 [] w0 (fun (r : Bool) (_u : Unit) => .bool r) (fun (_r : Bool) (_u : Unit) => []) r := by
 injection hr with hr
 subst hr
 exact (example_any w0 ht.1).mono fun x w1 ⟨hx, hb⟩ => ⟨(), hx, hb, fun h => absurd (ht.2.symm.trans h) (by decide), trivial⟩
end Go.Proofs.YtbnimhmoffchdaaGreatDoor
