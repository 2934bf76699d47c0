/- Deco: two slices that may be one, read under two names. -/
import Derived.Test.YtpbgfdmkebnjgaaGreatDoorKC
namespace Go.Proofs.YtpbgfdmkebnjgaaGreatDoor
open Go.RowKit
set_option linter.unusedSectionVars false
variable [JF]

/-- Two entries, whose blocks may be the same. -/
def twoE (h1 h2 : HE) : HE := ⟨fun b => h1.S b ∨ h2.S b, fun w => h1.X w ∧ h2.X w, fun w w' h hx => ⟨h1.loc w w' (fun b hb => h b (.inl hb)) hx.1, h2.loc w w' (fun b hb => h b (.inr hb)) hx.2⟩⟩
section
variable {w0 : World} {H H' : List HE} {h h1 h2 h3 : HE}
theorem hs_dup (k : Nat) (ks : List Nat) (hk : nodupB (k :: ks) = true := by kernel_rfl) (hs : hsel H (k :: ks) = some (h :: H') := by rfl) : HSub w0 H (twoE h h :: H') := fun w hw => by
  have hw' := hsub (w0 := w0) (k :: ks) hk hs w hw
  obtain ⟨a, b, x, y, z, r⟩ := hw'
  exact ⟨a, b, ⟨x, x⟩, fun c hc => y c (hc.elim id id), fun g hg c hc => z g hg c (hc.elim id id), r⟩
theorem hs_mk2 (k j : Nat) (ks : List Nat) (hk : nodupB (k :: j :: ks) = true := by kernel_rfl) (hs : hsel H (k :: j :: ks) = some (h1 :: h2 :: H') := by rfl) : HSub w0 H (twoE h1 h2 :: H') := fun w hw => by
  have hw' := hsub (w0 := w0) (k :: j :: ks) hk hs w hw
  obtain ⟨a, b, x, y, z, x2, y2, z2, r⟩ := hw'
  exact ⟨a, b, ⟨x, x2⟩, fun c hc => hc.elim (y c) (y2 c), fun g hg c hc => hc.elim (z g (List.mem_cons_of_mem _ hg) c) (z2 g hg c), r⟩
theorem hs_two (k j : Nat) (ks : List Nat) (hk : nodupB (k :: j :: ks) = true := by kernel_rfl) (hs : hsel H (k :: j :: ks) = some (twoE h1 h2 :: h3 :: H') := by rfl) : HSub w0 H (twoE h1 h3 :: H') := fun w hw => by
  have hw' := hsub (w0 := w0) (k :: j :: ks) hk hs w hw
  obtain ⟨a, b, x, y, z, x2, y2, z2, r⟩ := hw'
  exact ⟨a, b, ⟨x.1, x2⟩, fun c hc => hc.elim (fun q => y c (.inl q)) (y2 c), fun g hg c hc => hc.elim (fun q => z g (List.mem_cons_of_mem _ hg) c (.inl q)) (z2 g hg c), r⟩
theorem Hs.own1 {α : Type} {w : World} (hs : Hs w0 H w) (k : Nat) {el sz : Nat} {enc : α → List Value} {A : Option Addr} {n c : Nat} {l : List α} (hk : H[k]? = some (twoE (ownE el sz enc A n c l) h2)) (hz : ∀ x, (enc x).length = sz) : RdE w sz enc A l := by
  have hw : Hs w0 [ownE el sz enc A n c l] w := by
    obtain ⟨x, y⟩ := hs.at_ k hk
    exact ⟨hs.old, hs.dr, x.1, fun b hb => y b (.inl hb), (fun g hg => by cases hg), trivial⟩
  exact hw.own 0 rfl hz
theorem Hs.own2 {α : Type} {w : World} (hs : Hs w0 H w) (k : Nat) {el sz : Nat} {enc : α → List Value} {A : Option Addr} {n c : Nat} {l : List α} (hk : H[k]? = some (twoE h1 (ownE el sz enc A n c l))) (hz : ∀ x, (enc x).length = sz) : RdE w sz enc A l := by
  have hw : Hs w0 [ownE el sz enc A n c l] w := by
    obtain ⟨x, y⟩ := hs.at_ k hk
    exact ⟨hs.old, hs.dr, x.2, fun b hb => y b (.inr hb), (fun g hg => by cases hg), trivial⟩
  exact hw.own 0 rfl hz
theorem Hs.ownZ1 {α : Type} {w : World} (hs : Hs w0 H w) (k : Nat) {el sz : Nat} {enc : α → List Value} {A : Option Addr} {n c : Nat} {l : List α} (hk : H[k]? = some (twoE (ownE el sz enc A n c l) h2)) : SW A n c l.length := by
  have hw : Hs w0 [ownE el sz enc A n c l] w := by
    obtain ⟨x, y⟩ := hs.at_ k hk
    exact ⟨hs.old, hs.dr, x.1, fun b hb => y b (.inl hb), (fun g hg => by cases hg), trivial⟩
  exact hw.ownZ 0 rfl
theorem Hs.ownZ2 {α : Type} {w : World} (hs : Hs w0 H w) (k : Nat) {el sz : Nat} {enc : α → List Value} {A : Option Addr} {n c : Nat} {l : List α} (hk : H[k]? = some (twoE h1 (ownE el sz enc A n c l))) : SW A n c l.length := by
  have hw : Hs w0 [ownE el sz enc A n c l] w := by
    obtain ⟨x, y⟩ := hs.at_ k hk
    exact ⟨hs.old, hs.dr, x.2, fun b hb => y b (.inr hb), (fun g hg => by cases hg), trivial⟩
  exact hw.ownZ 0 rfl
theorem xm_hsub {n : Nat} {ρ : Type} {Q : ρ → Exit → Act → World → Prop} {x : Exit} {m : Option ρ} {e : Env} (h2 : HSub w0 H H') (h : Xm n w0 Q x m e H') : Xm n w0 Q x m e H := fun r hr w hw => h r hr w (h2 w hw)
end
section
variable {σ : Type} {P : Program} {n : Nat} {ops : Array Oper} {E : σ → Env} {HQ : σ → World → Prop} {S : World → Prop} {fuel : Nat} {listed : Array Bool} {e : Env} {w w0 : World} {H : List HE} {dst : Option Tmp} {ty : TypeId} {ps : String} {af : Array Edge} {g : Option (Nat × Bool)} {α : Type}
/-- An empty literal slice, in a drawn region. -/
theorem ws_slice0 {i : Nat} (d : Nat) {t el sz bytes : Nat} {enc : α → List Value} (hi : ops[i]? = some ⟨dst, .buildSlice t 0 #[], ty, ps, af, g⟩) (hc : chk ops e n ⟨dst, .buildSlice t 0 #[], ty, ps, af, g⟩ d true = true) (hT : rowOk P t el sz bytes = true) (hw : Hs w0 H w)
    (next : ∀ A n' c w', Hs w0 (ownE el sz enc A n' c ([] : List α) :: H) w' → S w' ∧ wh P n ops E HQ S fuel (done listed i) ((d, .slice A n' c) :: e) w') : ws P n ops E HQ S fuel listed e w i := by
  have hw' : Hs w0 (ownE el sz enc (some ⟨w.heap.size, 0, none⟩) 0 0 ([] : List α) :: H) (w.alloc (.cells #[] el)) := by
    refine hw.push ((Below.refl _ _).alloc (Nat.le_refl _) _) (Nat.le_refl _) ?_ (fun b hb => ?_)
    · exact ⟨rfl, by simp, .inr ⟨w.heap.size, 0, #[], rfl, Nat.zero_le _, heap_alloc_new w _, Nat.le_refl _, by decide, by simp, by simp⟩⟩
    · have e1 : b = w.heap.size := by simpa [ownE, Value.ownBlock] using hb.symm
      subst e1; exact ⟨Nat.le_refl _, by simp⟩
  obtain ⟨h1, h2⟩ := next _ _ _ _ hw'
  exact ws_run d hi hc (op_slice0 hT) h1 h2
end
section
variable {σ : Type} {P : Program} {n : Nat} {ops : Array Oper} {E : σ → Env} {H : σ → World → Prop} {S : World → Prop} {fuel : Nat} {listed : Array Bool} {e : Env} {w : World}
/-- A call's answer that tests of the region hang on. -/
theorem wh_split {d : Nat} {b : Bool} (ht : b = true → wh P n ops E H S fuel listed ((d, .bool true) :: e) w) (hf : b = false → wh P n ops E H S fuel listed ((d, .bool false) :: e) w) : wh P n ops E H S fuel listed ((d, .bool b) :: e) w := by
  cases b
  · exact hf rfl
  · exact ht rfl
end
end Go.Proofs.YtpbgfdmkebnjgaaGreatDoor
