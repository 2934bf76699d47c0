/- Deco, regions that draw their order and change memory. Over any program. -/
import Derived.Test.YtpbgfdmkebnjgaaGreatDoorDOps2
import Derived.Test.YtpbgfdmkebnjgaaGreatDoorHeld
namespace Go.Proofs.YtpbgfdmkebnjgaaGreatDoor
open Go.RowKit
set_option linter.unusedSectionVars false
variable [JF]

section
variable {σ : Type} {P : Program} {n : Nat} {ops : Array Oper} {E : σ → Env} {H : σ → World → Prop} {S : World → Prop} {fuel : Nat} {listed : Array Bool} {e : Env} {w : World} {o : Oper}
/-- Operation i comes up now. -/
def ws {σ : Type} (P : Program) (n : Nat) (ops : Array Oper) (E : σ → Env) (H : σ → World → Prop) (S : World → Prop) (fuel : Nat) (listed : Array Bool) (e : Env) (w : World) (i : Nat) : Prop :=
  ∀ a, Fr n a e → wpOp P ops (PostS n E H) i (fun a' w' => S w' ∧ wpAnyH P .any ops (PostS n E H) S fuel (done listed i) a' w') a w
def wsAll {σ : Type} (P : Program) (n : Nat) (ops : Array Oper) (E : σ → Env) (H : σ → World → Prop) (S : World → Prop) (fuel : Nat) (listed : Array Bool) (e : Env) (w : World) : List Nat → Prop
  | [] => True
  | i :: l => ws P n ops E H S fuel listed e w i ∧ wsAll P n ops E H S fuel listed e w l
theorem wsAll_mem : ∀ {l : List Nat}, wsAll P n ops E H S fuel listed e w l → ∀ i ∈ l, ws P n ops E H S fuel listed e w i
  | [], _, i, hi => by cases hi
  | j :: l, h, i, hi => by
    rcases List.mem_cons.1 hi with rfl | hi
    · exact h.1
    · exact wsAll_mem h.2 i hi
theorem wh_ready (l : List Nat) (hr : Region.ready .any ops listed = l) (hne : l.isEmpty = false) (h : wsAll P n ops E H S fuel listed e w l) : wh P n ops E H S (fuel + 1) listed e w := fun a hf =>
  wpAnyH_all hr (fun h0 => by rw [h0] at hne; cases hne) fun i hi => wsAll_mem h i hi a hf
theorem ws_call {i : Nat} (d : Nat) {f : FuncId} {args : Array Value} {R : Ending → World → Prop} (hi : ops[i]? = some o) (hc : chk ops e n o d true = true) (hv : (execOp (eev e) o).run P w = .ok (.enter f args) w) (hR : Calls P f args w R)
    (next : ∀ x w', R x w' → ∃ v, x = .returned v ∧ S w' ∧ wh P n ops E H S fuel (done listed i) ((d, v) :: e) w') : ws P n ops E H S fuel listed e w i := fun a hf => by
  obtain ⟨hd, hn, hs, hg, hk⟩ := chk_spec hc
  unfold wpOp
  simp only [hi]
  rw [if_pos (gOk_wanted hf hg)]
  refine .inl ?_
  unfold Oper.wp
  rw [exec_fr hf hs (hk rfl), hv]
  simp only [Oper.upon]
  refine hR.mono fun x w' hR => ?_
  obtain ⟨v, rfl, h1, h2⟩ := next x w' hR
  simp only
  rw [hd]
  exact ⟨h1, h2 _ (hf.put hn v)⟩
theorem ws_run {i : Nat} (d : Nat) {v : Value} {w' : World} (hi : ops[i]? = some o) (hc : chk ops e n o d true = true) (hv : (execOp (eev e) o).run P w = .ok (.value v) w')
    (hS : S w') (next : wh P n ops E H S fuel (done listed i) ((d, v) :: e) w') : ws P n ops E H S fuel listed e w i := fun a hf => by
  obtain ⟨hd, hn, hs, hg, hk⟩ := chk_spec hc
  unfold wpOp
  simp only [hi]
  rw [if_pos (gOk_wanted hf hg)]
  refine .inl ?_
  unfold Oper.wp
  rw [exec_fr hf hs (hk rfl), hv]
  simp only [Oper.upon]
  rw [hd]
  exact ⟨hS, next _ (hf.put hn v)⟩
theorem ws_do {i : Nat} {w' : World} (hi : ops[i]? = some o) (hc : chk0 ops e o = true) (hv : (execOp (eev e) o).run P w = .ok .skip w')
    (hS : S w') (next : wh P n ops E H S fuel (done listed i) e w') : ws P n ops E H S fuel listed e w i := fun a hf => by
  obtain ⟨hd, hs, hg, hk⟩ := chk0_spec hc
  unfold wpOp
  simp only [hi]
  rw [if_pos (gOk_wanted hf hg)]
  refine .inl ?_
  unfold Oper.wp
  rw [exec_fr hf hs hk, hv]
  simp only [Oper.upon]
  rw [hd]
  exact ⟨hS, next _ (hf.put_none undef)⟩
theorem ws_skip {i : Nat} (d : Nat) (hi : ops[i]? = some o) (hc : chk ops e n o d false = true) (hS : S w) (next : wh P n ops E H S fuel (done listed i) ((d, undef) :: e) w) : ws P n ops E H S fuel listed e w i := fun a hf => by
  obtain ⟨hd, hn, hs, hg, hk⟩ := chk_spec hc
  unfold wpOp
  simp only [hi]
  rw [if_neg (by rw [gOk_wanted hf hg]; decide), hd]
  exact ⟨hS, next _ (hf.put hn undef)⟩
end
section
variable {P : Program} {n : Nat} {w0 : World} {ρ : Type} {Q : ρ → Exit → Act → World → Prop} {mm : Option ρ} {e : Env} {H : List HE}
theorem cm_held {ξ : Type} {id : Nat} {l : List Oper} {K' : ρ → Act → World → Prop} (E : ξ → Env) (HH : ξ → List HE) (HS : List HE) (m : Nat) (hm : P.follows .mixedOrders = true) (hl : l.length = m) (hS : HSub w0 H HS)
    (h : ∀ w, Hs w0 H w → wh P n l.toArray E (fun u w => Hs w0 (HH u) w) (Hs w0 HS) m (Array.replicate m false) e w) (k : ∀ u, Xm n w0 (fun r => Exit.then (K' r) (Q r)) .normal mm (E u) (HH u)) : Cm P n w0 (.region id l.toArray true) (fun r => Exit.then (K' r) (Q r)) mm e H := fun r hr w hw a hf => by
  subst hl
  have h1 : (Code.region id l.toArray true).wp P (PostS n E (fun u w => Hs w0 (HH u) w)) a w := wp_region_held_drew (S := Hs w0 HS) hm (hS _ hw.drew) fun _ => by
    have := h w.drew hw.drew a hf
    simpa using this
  exact Code.wp_mono (fun x a w' hp => by
    obtain ⟨hx, u, hfr, hH⟩ := hp
    subst hx; exact k u r hr w' hH a hfr) h1
end
/-! ### What the operations leave, for a world at hand -/
section
variable {P : Program} {w0 w : World} {e : Env} {H H' : List HE} {dst : Option Tmp} {ty : TypeId} {ps : String} {af : Array Edge} {g : Option (Nat × Bool)} {α : Type}
theorem rn_slice1 {t el sz bytes : Nat} {x : Operand} {enc : α → List Value} (v : α) (hT : rowOk P t el sz bytes = true) (hz : ∀ x, (enc x).length = sz) (hx : (eev e x).cells = (enc v).toArray) (hs : Nat.ble sz 1000 = true) (hw : Hs w0 H w) :
    ∃ A n' c w', (execOp (eev e) ⟨dst, .buildSlice t 1 #[(0, x)], ty, ps, af, g⟩).run P w = .ok (.value (.slice A n' c)) w' ∧ Hs w0 (ownE el sz enc A n' c [v] :: H) w' := by
  refine ⟨some ⟨w.heap.size, 0, none⟩, 1, 1, _, op_slice1 (enc v) hT hx (hz v) hs, ?_⟩
  refine hw.push ((Below.refl _ _).alloc (Nat.le_refl _) _) (Nat.le_refl _) ?_ (fun b hb => ?_)
  · exact ⟨rfl, by simp [hz], .inr ⟨w.heap.size, 1, (enc v).toArray, rfl, Nat.zero_le _, heap_alloc_new w _, Nat.le_refl _, by decide, by simp [hz], by have := hz v; simp; rw [← this]; exact List.take_length⟩⟩
  · have e1 : b = w.heap.size := by simpa [ownE, Value.ownBlock] using hb.symm
    subst e1; exact ⟨Nat.le_refl _, by simp⟩
end
end Go.Proofs.YtpbgfdmkebnjgaaGreatDoor
