/- Deco: strconv.Itoa and strings.Join by the shelf's contracts; the table that Itoa reads. -/
import Derived.Test.YtpbgfdmkebnjgaaGreatDoorKC
import Derived.Test.YtpbgfdmkebnjgaaGreatDoorWShelf
import Derived.Lib.SmallJoins
import Derived.Lib.AppendIntMem
namespace Go.Proofs.YtpbgfdmkebnjgaaGreatDoor
open Go.RowKit Go.Shelf
set_option linter.unusedSectionVars false
variable [JF]

/-- The table lies in memory, and draws are not counted. -/
def Tab (w : World) : Prop := Lib.TabIs Tryz.prog w "internal/strconv.uint64pow10" .u64 Lib.pow10Tab ∧ JF.j = true
theorem hs_tab {w0 w : World} {H : List HE} (h : Tab w0) (c : Hs w0 H w) : Tab w := ⟨Joins.tab_stays (g := 0) (by kernel_rfl) h.1 c.old (Nat.le_refl _), h.2⟩
theorem hs_below {w w' : World} (hj : JF.j = true) (hb : Below w.heap.size w w') : Hs w [] w' := ⟨hb, fun h => absurd (hj.symm.trans h) (by decide), trivial⟩
def m_strconv_Itoa (_N : Nat) (p0 : Int) : Option ByteArray := ck (I64 p0) (some ⟨(Lib.itoa p0).toArray⟩)
theorem m_strconv_Itoa_ok (N : Nat) (w0 : World) (p0 : Int) (ht : Tab w0) (r : ByteArray) (hr : m_strconv_Itoa N p0 = some r) :
    Calls Tryz.prog 61 [.int .i64 p0].toArray w0 fun x w1 => ∃ u, x = .returned ((fun (r : ByteArray) (_u : Unit) => .string r) r u) ∧ Hs w0 ((fun (_r : ByteArray) (_u : Unit) => []) r u) w1 := by
  unfold m_strconv_Itoa at hr
  obtain ⟨hi, e⟩ := ck_some hr
  injection e with e
  subst e
  refine (Tryz.strconv_Itoa p0 hi.1 hi.2 w0 ht.1).mono fun x w1 ⟨hx, k, os, hw⟩ => ⟨(), hx, hs_below ht.2 ?_⟩
  subst hw
  exact Lib.below_grow _ _ (Nat.le_refl _) k os
def m_strings_Join (_N : Nat) (p0 : List ByteArray) (p1 : ByteArray) : Option ByteArray := ck (p0.length ≤ 140737488355328 ∧ (Lib.join (p0.map (·.data.toList)) p1.data.toList).length ≤ 140737488355328) (some ⟨(Lib.join (p0.map (·.data.toList)) p1.data.toList).toArray⟩)
theorem m_strings_Join_ok (N : Nat) (w0 : World) (p0 : List ByteArray) (p1 : ByteArray) (A_p0 : Option Addr) (n_p0 c_p0 : Nat) (hr_p0 : RdE w0 1 encS A_p0 p0) (hz_p0 : SW A_p0 n_p0 c_p0 p0.length) (ht : Tab w0) (r : ByteArray) (hr : m_strings_Join N p0 p1 = some r) :
    Calls Tryz.prog 90 [.slice A_p0 n_p0 c_p0, .string p1].toArray w0 fun x w1 => ∃ u, x = .returned ((fun (r : ByteArray) (_u : Unit) => .string r) r u) ∧ Hs w0 ((fun (_r : ByteArray) (_u : Unit) => []) r u) w1 := by
  unfold m_strings_Join at hr
  obtain ⟨⟨h1, h2⟩, e⟩ := ck_some hr
  injection e with e
  subst e
  obtain ⟨_, hz2, rfl⟩ := hz_p0
  by_cases h0 : 0 < p0.length
  · obtain ⟨b, off, rfl, hb, hc⟩ := hr_p0.2 h0
    refine (Tryz.strings_Join b off c_p0 p0 p1 w0 (fun j x hx => ?_) hb h1 hz2 h2).mono fun x w1 ⟨hx, hw⟩ => ⟨(), hx, hs_below ht.2 hw⟩
    obtain ⟨cs, _, hcs, hcc⟩ := hc j x hx
    have := hcc 0 (.string x) (by rw [hcs]; rfl)
    simpa using this
  · have : p0 = [] := List.eq_nil_of_length_eq_zero (by omega)
    subst this
    exact (Any.strings_Join_none Tryz.lays156 Tryz.Builder_Extra_156 A_p0 c_p0 p1 w0).mono fun x w1 ⟨hx, hw⟩ => ⟨(), hx, hw ▸ Hs.refl _⟩
end Go.Proofs.YtpbgfdmkebnjgaaGreatDoor
