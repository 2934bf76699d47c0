/- math/bits.Mul, by the shelf's contract. -/
import Derived.Test.YtimmifkdocjljaaDCopy
import Derived.Test.YtimmifkdocjljaaShelf
namespace Go.Proofs.Ytimmifkdocjljaa
open Go.RowKit

section
variable {P : Program} {n : Nat} {w0 : World} {ρ : Type} {Q : ρ → Exit → Act → World → Prop} {m : Option ρ} {e : Env} {H H' : List HE} {ops : Array Oper} {o : Oper} {rest : List Oper}
/-- A call that turns memory as its contract says. -/
theorem lm_callE (d : Nat) {f : FuncId} {args : Array Value} {v : Value} (hc : chk ops e n o d true = true) (hv : ∀ w, (execOp (eev e) o).run P w = .ok (.enter f args) w)
    (hR : ∀ w, Hs w0 H w → Calls P f args w fun x w' => x = .returned v ∧ Hs w0 H' w') (next : Lm P n w0 ops Q rest m ((d, v) :: e) H') : Lm P n w0 ops Q (o :: rest) m e H := fun r hr w hw =>
  wl_call d hc (hv w) (hR w hw) fun x w' hx => by
    obtain ⟨rfl, hw'⟩ := hx
    exact ⟨_, rfl, next r hr w' hw'⟩
end
def m_bits_Mul (_N : Nat) (x y : Int) : Option (Int × Int) := ck (0 ≤ x ∧ x < 18446744073709551616 ∧ 0 ≤ y ∧ y < 18446744073709551616) (some (x * y / 18446744073709551616, x * y % 18446744073709551616))
theorem m_bits_Mul_ok (N : Nat) (w0 : World) (x y : Int) (r : Int × Int) (hr : m_bits_Mul N x y = some r) :
    Calls Try.prog 38 [.int .u64 x, .int .u64 y].toArray w0 fun x w1 => ∃ u : Unit, x = .returned ((fun (r : Int × Int) (_ : Unit) => Value.tuple #[.int .u64 r.1, .int .u64 r.2]) r u) ∧ Hs w0 ((fun (_ : Int × Int) (_ : Unit) => []) r u) w1 := by
  obtain ⟨⟨h1, h2, h3, h4⟩, hr⟩ := ck_some hr
  injection hr with hr
  subst hr
  obtain ⟨a, rfl⟩ := Int.eq_ofNat_of_zero_le h1
  obtain ⟨b, rfl⟩ := Int.eq_ofNat_of_zero_le h3
  refine (Try.bits_Mul a b (by omega) (by omega) w0).mono fun x w1 ⟨hx, hw⟩ => ⟨(), ?_, by subst hw; exact Hs.refl _⟩
  rw [hx]
  simp
end Go.Proofs.Ytimmifkdocjljaa
