/- Regions that draw their order and hold calls or make memory: a condition S on the world is kept; what S decides is taken first. -/
import Derived.Test.YtpbgfdmkebnjgaaGreatDoorOps
import Derived.Deep.RegionHeld
namespace Go.Proofs.YtpbgfdmkebnjgaaGreatDoor
open Go.RowKit

theorem wpAnyH_mono {P : Program} {md : Region.Mode} {ops : Array Oper} {Q : Exit → Act → World → Prop} {S S2 : World → Prop} (hS : ∀ w, S2 w → S w) : ∀ (fuel : Nat) (listed : Array Bool) (a : Act) (w : World), wpAnyH P md ops Q S2 fuel listed a w → wpAnyH P md ops Q S fuel listed a w
  | 0, _, _, _, h => h
  | fuel + 1, _, _, _, h => ⟨h.1, fun i hi => wpOp_mono (fun a' w' hw => ⟨hS _ hw.1, wpAnyH_mono hS fuel _ a' w' hw.2⟩) (h.2 i hi)⟩
def done (listed : Array Bool) (i : Nat) : Array Bool := listed.setIfInBounds i true
def wh {σ : Type} (P : Program) (n : Nat) (ops : Array Oper) (E : σ → Env) (H : σ → World → Prop) (S : World → Prop) (fuel : Nat) (listed : Array Bool) (e : Env) (w : World) : Prop :=
  ∀ a, Fr n a e → wpAnyH P .any ops (PostS n E H) S fuel listed a w
/-- Operation i may come up, and may come up first. -/
def mayTake (ops : Array Oper) (listed : Array Bool) (i : Nat) : Bool := Region.noSelect ops && (Region.free .any ops listed i && (Region.ready .any ops listed).contains i)
section
variable {σ : Type} {P : Program} {n : Nat} {ops : Array Oper} {E : σ → Env} {H : σ → World → Prop} {S S2 : World → Prop} {fuel : Nat} {listed : Array Bool} {e e' : Env} {w : World} {o : Oper}
theorem wh_strong (S2 : World → Prop) (hS : ∀ w, S2 w → S w) (h : wh P n ops E H S2 fuel listed e w) : wh P n ops E H S fuel listed e w := fun a hf => wpAnyH_mono hS _ _ _ _ (h a hf)
theorem wh_take (i d : Nat) {v : Value} (hi : ops[i]? = some o) (hm : mayTake ops listed i = true) (hc : chk ops e n o d true = true) (hv : ∀ w, S w → OpV P e w o v) (hS : S w) (next : wh P n ops E H S fuel (done listed i) ((d, v) :: e) w) : wh P n ops E H S (fuel + 1) listed e w := fun a hf => by
  obtain ⟨hd, hn, hs, hg, hk⟩ := chk_spec hc
  simp only [mayTake, Bool.and_eq_true] at hm
  refine wpAnyH_take (v := v) hi hm.1 hm.2.1 hm.2.2 (fun _ _ _ h => absurd h.1 (by simp)) (.inl ⟨gOk_wanted hf hg, fun w hw => ?_⟩) hS ?_
  · rw [exec_fr hf hs (hk rfl)]; exact hv w hw
  · rw [hd]; exact next _ (hf.put hn v)
theorem wh_dec (i d : Nat) {φ : Prop} [Decidable φ] (hi : ops[i]? = some o) (hm : mayTake ops listed i = true) (hc : chk ops e n o d true = true) (hv : ∀ w, S w → OpV P e w o (.bool (decide φ))) (hS : S w)
    (ht : φ → wh P n ops E H S fuel (done listed i) ((d, .bool true) :: e) w) (hf : ¬ φ → wh P n ops E H S fuel (done listed i) ((d, .bool false) :: e) w) : wh P n ops E H S (fuel + 1) listed e w := by
  by_cases h : φ
  · rw [decide_eq_true h] at hv; exact wh_take i d hi hm hc hv hS (ht h)
  · rw [decide_eq_false h] at hv; exact wh_take i d hi hm hc hv hS (hf h)
theorem wh_bool (i d : Nat) {b : Bool} (hi : ops[i]? = some o) (hm : mayTake ops listed i = true) (hc : chk ops e n o d true = true) (hv : ∀ w, S w → OpV P e w o (.bool b)) (hS : S w)
    (ht : b = true → wh P n ops E H S fuel (done listed i) ((d, .bool true) :: e) w) (hf : b = false → wh P n ops E H S fuel (done listed i) ((d, .bool false) :: e) w) : wh P n ops E H S (fuel + 1) listed e w := by
  cases b
  · exact wh_take i d hi hm hc hv hS (hf rfl)
  · exact wh_take i d hi hm hc hv hS (ht rfl)
theorem wh_skip (i d : Nat) (hi : ops[i]? = some o) (hm : mayTake ops listed i = true) (hc : chk ops e n o d false = true) (hS : S w) (next : wh P n ops E H S fuel (done listed i) ((d, undef) :: e) w) : wh P n ops E H S (fuel + 1) listed e w := fun a hf => by
  obtain ⟨hd, hn, hs, hg, hk⟩ := chk_spec hc
  simp only [mayTake, Bool.and_eq_true] at hm
  refine wpAnyH_take (v := undef) hi hm.1 hm.2.1 hm.2.2 (fun _ _ _ h => absurd h.1 (by simp)) (.inr ⟨gOk_wanted hf hg, rfl⟩) hS ?_
  rw [hd]; exact next _ (hf.put hn undef)
/-- The one operation that may come up: a call. -/
theorem wh_call (i d : Nat) {f : FuncId} {args : Array Value} {R : Ending → World → Prop} (hi : ops[i]? = some o) (hr : Region.ready .any ops listed = [i]) (hc : chk ops e n o d true = true) (hv : (execOp (eev e) o).run P w = .ok (.enter f args) w) (hR : Calls P f args w R)
    (next : ∀ x w', R x w' → ∃ v, x = .returned v ∧ S w' ∧ wh P n ops E H S fuel (done listed i) ((d, v) :: e) w') : wh P n ops E H S (fuel + 1) listed e w := fun a hf => by
  obtain ⟨hd, hn, hs, hg, hk⟩ := chk_spec hc
  refine wpAnyH_all hr (by simp) fun j hj => ?_
  obtain rfl : j = i := by simpa using hj
  unfold wpOp
  simp only [hi]
  rw [if_pos (gOk_wanted hf hg)]
  refine .inl ?_
  unfold Oper.wp
  rw [exec_fr hf hs (hk rfl), hv]
  simp only [Oper.upon]
  refine hR.mono fun x w' hR => ?_
  obtain ⟨v, rfl, h1, h2⟩ := next x w' hR
  simp only
  rw [hd]
  exact ⟨h1, h2 _ (hf.put hn v)⟩
/-- The one operation that may come up: it runs to a value. -/
theorem wh_run (i d : Nat) {v : Value} {w' : World} (hi : ops[i]? = some o) (hr : Region.ready .any ops listed = [i]) (hc : chk ops e n o d true = true) (hv : (execOp (eev e) o).run P w = .ok (.value v) w')
    (hS : S w') (next : wh P n ops E H S fuel (done listed i) ((d, v) :: e) w') : wh P n ops E H S (fuel + 1) listed e w := fun a hf => by
  obtain ⟨hd, hn, hs, hg, hk⟩ := chk_spec hc
  refine wpAnyH_all hr (by simp) fun j hj => ?_
  obtain rfl : j = i := by simpa using hj
  unfold wpOp
  simp only [hi]
  rw [if_pos (gOk_wanted hf hg)]
  refine .inl ?_
  unfold Oper.wp
  rw [exec_fr hf hs (hk rfl), hv]
  simp only [Oper.upon]
  rw [hd]
  exact ⟨hS, next _ (hf.put hn v)⟩
/-- The one operation that may come up: a store. -/
theorem wh_do (i : Nat) {w' : World} (hi : ops[i]? = some o) (hr : Region.ready .any ops listed = [i]) (hc : chk0 ops e o = true) (hv : (execOp (eev e) o).run P w = .ok .skip w')
    (hS : S w') (next : wh P n ops E H S fuel (done listed i) e w') : wh P n ops E H S (fuel + 1) listed e w := fun a hf => by
  obtain ⟨hd, hs, hg, hk⟩ := chk0_spec hc
  refine wpAnyH_all hr (by simp) fun j hj => ?_
  obtain rfl : j = i := by simpa using hj
  unfold wpOp
  simp only [hi]
  rw [if_pos (gOk_wanted hf hg)]
  refine .inl ?_
  unfold Oper.wp
  rw [exec_fr hf hs hk, hv]
  simp only [Oper.upon]
  rw [hd]
  exact ⟨hS, next _ (hf.put_none undef)⟩
theorem wh_done (s : σ) (hr : Region.ready .any ops listed = []) (hE : Sub e (E s)) (hH : H s w) : wh P n ops E H S fuel listed e w := fun a hf => wpAnyH_done hr ⟨rfl, s, hE n a hf, hH⟩ fuel
theorem wc_held {id : Nat} {l : List Oper} {Q : Exit → Act → World → Prop} {K : Act → World → Prop} (S : World → Prop) (O : σ → Env) (H : σ → World → Prop) (m : Nat) (hm : P.follows .mixedOrders = true) (hl : l.length = m) (hS : S w.drew)
    (h : wh P n l.toArray (fun s => O s ++ e) H S m (Array.replicate m false) e w.drew) (k : ∀ s w', H s w' → wx n (Exit.then K Q) .normal (O s ++ e) w') : wc P n (.region id l.toArray true) (Exit.then K Q) e w := fun a hf => by
  subst hl
  have h1 : (Code.region id l.toArray true).wp P (PostS n (fun s => O s ++ e) H) a w := wp_region_held_drew (S := S) hm hS fun _ => by
    have := h a hf
    simpa using this
  exact Code.wp_mono (fun x a w' hp => by
    obtain ⟨hx, s, hfr, hH⟩ := hp
    subst hx; exact k s w' hH a hfr) h1
end
end Go.Proofs.YtpbgfdmkebnjgaaGreatDoor
