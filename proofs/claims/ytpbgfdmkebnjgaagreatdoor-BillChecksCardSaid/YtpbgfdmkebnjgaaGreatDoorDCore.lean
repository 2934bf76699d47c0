/- Deco, the core: code against a model (an Option of data); memory as a list of entries apart from each other; rules for code, loops, joints, regions and calls. Over any program. -/
import Derived.Test.YtpbgfdmkebnjgaaGreatDoorOpsC
namespace Go.Proofs.YtpbgfdmkebnjgaaGreatDoor
open Go.RowKit

/-! ### Models -/
inductive Step (σ ρ : Type) where
  | next (s : σ)
  | done (r : ρ)
def ck {ρ : Type} (φ : Prop) [Decidable φ] (m : Option ρ) : Option ρ := if φ then m else none
def andThen {τ ρ : Type} (m : Option (Step τ ρ)) (k : τ → Option ρ) : Option ρ :=
  match m with
  | none => none
  | some (.next t) => k t
  | some (.done r) => some r
def loopM {σ ρ : Type} (f : σ → Option (Step σ ρ)) : Nat → σ → Option ρ
  | 0, _ => none
  | n + 1, s => match f s with
    | none => none
    | some (.next s') => loopM f n s'
    | some (.done r) => some r
/-- A call that is made only if g. -/
def callIf {α ρ : Type} [Inhabited α] (g : Prop) [Decidable g] (m : Option α) (k : α → Option ρ) : Option ρ := if g then m.bind k else k default
theorem ck_true {ρ : Type} {φ : Prop} [Decidable φ] {m : Option ρ} (h : φ) : ck φ m = m := if_pos h
theorem ck_some {ρ : Type} {φ : Prop} [Decidable φ] {m : Option ρ} {r : ρ} (h : ck φ m = some r) : φ ∧ m = some r := by
  unfold ck at h
  split at h
  · exact ⟨‹φ›, h⟩
  · cases h
def ix {α : Type} [Inhabited α] (l : List α) (i : Int) : α := l.getD i.toNat default
theorem ix_get {α : Type} [Inhabited α] {l : List α} {i : Int} (h0 : 0 ≤ i) (h1 : i < l.length) : l[i.toNat]? = some (ix l i) := by
  have hl : i.toNat < l.length := by omega
  unfold ix
  rw [List.getD_eq_getElem?_getD, List.getElem?_eq_getElem hl]
  rfl

/-! ### Memory -/
/-- An entry: the blocks that it is about, and what it says of them. -/
structure HE where
  S : Nat → Prop
  X : World → Prop
  loc : ∀ w w', (∀ b, S b → w'.heap[b]? = w.heap[b]?) → X w → X w'
def Sep (B : Nat) : List HE → World → Prop
  | [], _ => True
  | h :: H, w => h.X w ∧ (∀ b, h.S b → B ≤ b ∧ b < w.heap.size) ∧ (∀ k ∈ H, ∀ b, h.S b → ¬ k.S b) ∧ Sep B H w
/-- Whether draws are not counted any more (a library contract says nothing of them). -/
class JF where
  j : Bool
instance (priority := low) jfTrue : JF := ⟨true⟩
set_option linter.unusedSectionVars false
variable [JF]
/-- Old memory is as it was in w0; the entries hold of new memory and lie apart. -/
structure Hs (w0 : World) (H : List HE) (w : World) : Prop where
  old : Below w0.heap.size w0 w
  dr : JF.j = false → w0.drawn ≤ w.drawn
  sep : Sep w0.heap.size H w
theorem Sep.get {B : Nat} {w : World} {h : HE} : ∀ {H : List HE} {k : Nat}, H[k]? = some h → Sep B H w → h.X w ∧ ∀ b, h.S b → B ≤ b ∧ b < w.heap.size
  | [], _, hk, _ => by simp at hk
  | g :: H, 0, hk, hs => by
    simp at hk; subst hk; exact ⟨hs.1, hs.2.1⟩
  | g :: H, k + 1, hk, hs => Sep.get (H := H) (k := k) (by simpa using hk) hs.2.2.2
theorem Hs.get {w0 w : World} {H : List HE} {h : HE} (hs : Hs w0 H w) (k : Nat) (hk : H[k]? = some h) : h.X w := (hs.sep.get hk).1
theorem Hs.at_ {w0 w : World} {H : List HE} (hs : Hs w0 H w) (k : Nat) {h : HE} (hk : H[k]? = some h) : h.X w ∧ ∀ b, h.S b → w0.heap.size ≤ b ∧ b < w.heap.size := hs.sep.get hk
theorem Sep.keep {B : Nat} {w w' : World} (hz : w.heap.size ≤ w'.heap.size) : ∀ {H : List HE}, (∀ k ∈ H, ∀ b, k.S b → w'.heap[b]? = w.heap[b]?) → Sep B H w → Sep B H w'
  | [], _, _ => trivial
  | h :: _, hb, hs => ⟨h.loc w w' (hb h (List.mem_cons_self ..)) hs.1, fun b hS => ⟨(hs.2.1 b hS).1, Nat.lt_of_lt_of_le (hs.2.1 b hS).2 hz⟩, hs.2.2.1, Sep.keep hz (fun k hk => hb k (List.mem_cons_of_mem _ hk)) hs.2.2.2⟩
theorem Sep.lt {B : Nat} {w : World} : ∀ {H : List HE}, Sep B H w → ∀ k ∈ H, ∀ b, k.S b → B ≤ b ∧ b < w.heap.size
  | [], _, k, hk => by cases hk
  | h :: H, hs, k, hk => by
    rcases List.mem_cons.1 hk with rfl | hk
    · exact hs.2.1
    · exact Sep.lt hs.2.2.2 k hk
theorem Sep.append {B : Nat} {w : World} : ∀ {G H : List HE}, Sep B G w → Sep B H w → (∀ g ∈ G, ∀ h ∈ H, ∀ b, g.S b → ¬ h.S b) → Sep B (G ++ H) w
  | [], _, _, h2, _ => h2
  | g :: G, H, h1, h2, hd => ⟨h1.1, h1.2.1, fun k hk b hb => by
      rcases List.mem_append.1 hk with hk | hk
      · exact h1.2.2.1 k hk b hb
      · exact hd g (List.mem_cons_self ..) k hk b hb, Sep.append h1.2.2.2 h2 fun x hx => hd x (List.mem_cons_of_mem _ hx)⟩
theorem Sep.lower {B B' : Nat} {w : World} (hB : B' ≤ B) : ∀ {H : List HE}, Sep B H w → Sep B' H w
  | [], _ => trivial
  | _ :: _, hs => ⟨hs.1, fun b hb => ⟨Nat.le_trans hB (hs.2.1 b hb).1, (hs.2.1 b hb).2⟩, hs.2.2.1, Sep.lower hB hs.2.2.2⟩
theorem Hs.refl (w : World) : Hs w [] w := ⟨Below.refl _ _, fun _ => Nat.le_refl _, trivial⟩
theorem Hs.drN {w0 w w' : World} {H : List HE} (hs : Hs w0 H w) (hd : Dr w w') : Hs w0 H w' := by
  obtain ⟨m, rfl⟩ := hd
  exact ⟨below_drewN hs.old m, fun h => Nat.le_trans (hs.dr h) (Nat.le_add_right _ m), Sep.keep (w := w) (w' := w.drewN m) (Nat.le_refl _) (fun _ _ _ _ => rfl) hs.sep⟩
theorem Hs.drew {w0 w : World} {H : List HE} (hs : Hs w0 H w) : Hs w0 H w.drew := hs.drN (Dr.one w)
/-- What a call leaves, in the caller's words. -/
theorem Hs.call {w0 w w' : World} {H G : List HE} (hs : Hs w0 H w) (hc : Hs w G w') : Hs w0 (G ++ H) w' := by
  have hle := hs.old.size
  refine ⟨hs.old.trans (hc.old.mono hle), fun h => Nat.le_trans (hs.dr h) (hc.dr h), ?_⟩
  refine Sep.append (hc.sep.lower hle) (hs.sep.keep hc.old.size fun k hk b hb => hc.old.block b (hs.sep.lt k hk b hb).2) ?_
  intro g hg h hh b hb hb'
  have h1 := (hc.sep.lt g hg b hb).1
  have h2 := (hs.sep.lt h hh b hb').2
  omega
theorem Sep.set_ {B : Nat} {w w' : World} {h h' : HE} (hz : w.heap.size ≤ w'.heap.size) (hbB : B ≤ w.heap.size) : ∀ {H : List HE} {k : Nat}, H[k]? = some h → Sep B H w → (∀ b, b < w.heap.size → ¬ h.S b → w'.heap[b]? = w.heap[b]?) → h'.X w' → (∀ b, h'.S b → (h.S b ∨ w.heap.size ≤ b) ∧ b < w'.heap.size) → Sep B (H.set k h') w'
  | [], _, hk, _, _, _, _ => by simp at hk
  | g :: H, 0, hk, hs, hb, hX, hS => by
    simp at hk; subst hk
    refine ⟨hX, fun b hb' => ⟨?_, (hS b hb').2⟩, fun k hk b hb' hkb => ?_, hs.2.2.2.keep hz fun k hk b hkb => hb b (hs.2.2.2.lt k hk b hkb).2 fun hgb => hs.2.2.1 k hk b hgb hkb⟩
    · rcases (hS b hb').1 with h | h
      · exact (hs.2.1 b h).1
      · omega
    · rcases (hS b hb').1 with h | h
      · exact hs.2.2.1 k hk b h hkb
      · have := (hs.2.2.2.lt k hk b hkb).2; omega
  | g :: H, k + 1, hk, hs, hb, hX, hS => by
    have hk' : H[k]? = some h := by simpa using hk
    have hm : h ∈ H := List.mem_of_getElem? hk'
    refine ⟨g.loc w w' (fun b hgb => hb b (hs.2.1 b hgb).2 fun hhb => hs.2.2.1 h hm b hgb hhb) hs.1, fun b hgb => ⟨(hs.2.1 b hgb).1, Nat.lt_of_lt_of_le (hs.2.1 b hgb).2 hz⟩, fun x hx b hgb hxb => ?_, Sep.set_ hz hbB hk' hs.2.2.2 hb hX hS⟩
    rcases List.mem_or_eq_of_mem_set hx with hx | rfl
    · exact hs.2.2.1 x hx b hgb hxb
    · rcases (hS b hxb).1 with h1 | h1
      · exact hs.2.2.1 h hm b hgb h1
      · have := (hs.2.1 b hgb).2; omega
/-- Entry k is turned, all else stays. -/
theorem Hs.set_ {w0 w w' : World} {H : List HE} {h h' : HE} (hs : Hs w0 H w) (k : Nat) (hk : H[k]? = some h) (hg : Below 0 w w') (hd : w.drawn ≤ w'.drawn) (hb : ∀ b, b < w.heap.size → ¬ h.S b → w'.heap[b]? = w.heap[b]?) (hX : h'.X w') (hS : ∀ b, h'.S b → (h.S b ∨ w.heap.size ≤ b) ∧ b < w'.heap.size) : Hs w0 (H.set k h') w' := by
  obtain ⟨h1, h2⟩ := hs.at_ k hk
  refine ⟨⟨hg.os.trans hs.old.os, hg.tape.trans hs.old.tape, hg.output.trans hs.old.output, Nat.le_trans hs.old.size hg.size, fun b hb' => ?_⟩, fun h => Nat.le_trans (hs.dr h) hd, Sep.set_ hg.size hs.old.size hk hs.sep hb hX hS⟩
  rw [hb b (Nat.lt_of_lt_of_le hb' hs.old.size) fun hSb => by have := (h2 b hSb).1; omega]
  exact hs.old.block b hb'
/-- A new entry on new blocks. -/
theorem Hs.push {w0 w w' : World} {H : List HE} {h : HE} (hs : Hs w0 H w) (hb : Below w.heap.size w w') (hd : w.drawn ≤ w'.drawn) (hX : h.X w') (hS : ∀ b, h.S b → w.heap.size ≤ b ∧ b < w'.heap.size) : Hs w0 (h :: H) w' :=
  hs.call (G := [h]) ⟨hb, fun _ => hd, hX, fun b h => ⟨(hS b h).1, (hS b h).2⟩, fun k hk => (by cases hk), trivial⟩
/-- Entries that are asked for, by their places. -/
def hsel (H : List HE) : List Nat → Option (List HE)
  | [] => some []
  | k :: ks => match H[k]?, hsel H ks with
    | some h, some l => some (h :: l)
    | _, _ => none
def nodupB : List Nat → Bool
  | [] => true
  | k :: ks => !(ks.any (Nat.beq k)) && nodupB ks
theorem Sep.pair {B : Nat} {w : World} {a b : HE} : ∀ {H : List HE} {i j : Nat}, Sep B H w → H[i]? = some a → H[j]? = some b → i ≠ j → ∀ x, a.S x → ¬ b.S x
  | [], _, _, _, h, _, _ => by simp at h
  | g :: H, 0, 0, _, _, _, h => absurd rfl h
  | g :: H, 0, j + 1, hs, hi, hj, _ => fun x hx => by
    simp at hi; subst hi
    exact hs.2.2.1 b (List.mem_of_getElem? (by simpa using hj)) x hx
  | g :: H, i + 1, 0, hs, hi, hj, _ => fun x hx hx' => by
    simp at hj; subst hj
    exact hs.2.2.1 a (List.mem_of_getElem? (by simpa using hi)) x hx' hx
  | g :: H, i + 1, j + 1, hs, hi, hj, hn => Sep.pair (H := H) (i := i) (j := j) hs.2.2.2 (by simpa using hi) (by simpa using hj) (by omega)
theorem hsel_mem {H : List HE} : ∀ {ks : List Nat} {l : List HE}, hsel H ks = some l → ∀ h ∈ l, ∃ k ∈ ks, H[k]? = some h
  | [], l, hl, h, hh => by simp [hsel] at hl; subst hl; cases hh
  | k :: ks, l, hl, h, hh => by
    unfold hsel at hl
    split at hl
    · rename_i g l' hg hl'
      injection hl with hl; subst hl
      rcases List.mem_cons.1 hh with rfl | hh
      · exact ⟨k, List.mem_cons_self .., hg⟩
      · obtain ⟨k', h1, h2⟩ := hsel_mem hl' h hh
        exact ⟨k', List.mem_cons_of_mem _ h1, h2⟩
    · cases hl
theorem Sep.sel {B : Nat} {w : World} {H : List HE} (hs : Sep B H w) : ∀ {ks : List Nat} {l : List HE}, nodupB ks = true → hsel H ks = some l → Sep B l w
  | [], l, _, hl => by simp [hsel] at hl; subst hl; trivial
  | k :: ks, l, hn, hl => by
    unfold hsel at hl
    split at hl
    · rename_i g l' hg hl'
      injection hl with hl; subst hl
      unfold nodupB at hn
      simp only [Bool.and_eq_true, Bool.not_eq_true'] at hn
      obtain ⟨h1, h2⟩ := hs.get hg
      refine ⟨h1, h2, fun x hx b hb => ?_, Sep.sel hs hn.2 hl'⟩
      obtain ⟨k', hk', hx'⟩ := hsel_mem hl' x hx
      refine hs.pair hg hx' ?_ b hb
      rintro rfl
      have := List.any_eq_false.1 hn.1 k hk'
      rw [Nat.beq_refl] at this
      exact this rfl
    · cases hl
/-- All that H says, H' says. -/
def HSub (w0 : World) (H H' : List HE) : Prop := ∀ w, Hs w0 H w → Hs w0 H' w
theorem hsub (ks : List Nat) {w0 : World} {H H' : List HE} (h1 : nodupB ks = true) (h2 : hsel H ks = some H') : HSub w0 H H' := fun _ hs => ⟨hs.old, hs.dr, hs.sep.sel h1 h2⟩

theorem wpList_of_quiet {P : Program} {ops : Array Oper} {C : World → Prop} {K : Act → Prop} : ∀ {l : List Oper} {a : Act} {w : World}, wpQuiet P ops C K l a → C w → wpList P ops (fun x a w => x = .normal ∧ K a ∧ C w) l a w
  | [], a, w, h, hw => ⟨rfl, h, hw⟩
  | o :: rest, a, w, h, hw => by
    unfold wpQuiet at h
    unfold wpList
    split
    · rename_i hwd
      rw [if_pos hwd] at h
      obtain ⟨v, h1, h2⟩ := h
      refine .inl ?_
      have h3 := h1 w hw
      unfold Oper.quietAt at h3
      unfold Oper.wp
      revert h3
      generalize (execOp a.eval o).run P w = res
      intro h3
      unfold Oper.quietUpon at h3
      split at h3
      · obtain ⟨rfl, rfl⟩ := h3
        exact wpList_of_quiet h2 hw
      · obtain ⟨rfl, rfl⟩ := h3
        exact wpList_of_quiet h2 hw
      · obtain ⟨rfl, h3⟩ := h3
        refine h3.mono fun x w' hx => ?_
        obtain ⟨rfl, hC⟩ := hx
        exact wpList_of_quiet h2 hC
      · cases h3
    · rename_i hwd
      rw [if_neg hwd] at h
      exact wpList_of_quiet h hw

/-! ### Judgements -/
section
variable (P : Program) (n : Nat) (w0 : World)
def Cm {ρ : Type} (c : Code) (Q : ρ → Exit → Act → World → Prop) (m : Option ρ) (e : Env) (H : List HE) : Prop := ∀ r, m = some r → ∀ w, Hs w0 H w → wc P n c (Q r) e w
def Xm {ρ : Type} (Q : ρ → Exit → Act → World → Prop) (x : Exit) (m : Option ρ) (e : Env) (H : List HE) : Prop := ∀ r, m = some r → ∀ w, Hs w0 H w → wx n (Q r) x e w
def Lm {ρ : Type} (ops : Array Oper) (Q : ρ → Exit → Act → World → Prop) (l : List Oper) (m : Option ρ) (e : Env) (H : List HE) : Prop := ∀ r, m = some r → ∀ w, Hs w0 H w → wl P n ops (Q r) l e w
end
def QL {σ ξ ρ : Type} (n : Nat) (w0 : World) (E : σ → ξ → Env) (HH : σ → ξ → List HE) (Q : ρ → Exit → Act → World → Prop) : Step σ ρ → Exit → Act → World → Prop
  | .next s => fun y a w => y = .normal ∧ ∃ x, Fr n a (E s x) ∧ Hs w0 (HH s x) w
  | .done r => fun y a w => y ≠ .normal ∧ Q r y a w
section
variable {P : Program} {n : Nat} {w0 : World} {ρ : Type} {Q : ρ → Exit → Act → World → Prop} {m m1 m2 : Option ρ} {e e' : Env} {H H' : List HE}
theorem cm_none {c : Code} : Cm P n w0 c Q (none : Option ρ) e H := fun _ hr => by cases hr
theorem cm_ck {c : Code} {φ : Prop} [Decidable φ] (h : φ → Cm P n w0 c Q m e H) : Cm P n w0 c Q (ck φ m) e H := fun r hr => h (ck_some hr).1 r (ck_some hr).2
theorem xm_ck {x : Exit} {φ : Prop} [Decidable φ] (h : φ → Xm n w0 Q x m e H) : Xm n w0 Q x (ck φ m) e H := fun r hr => h (ck_some hr).1 r (ck_some hr).2
theorem lm_ck {ops : Array Oper} {l : List Oper} {φ : Prop} [Decidable φ] (h : φ → Lm P n w0 ops Q l m e H) : Lm P n w0 ops Q l (ck φ m) e H := fun r hr => h (ck_some hr).1 r (ck_some hr).2
theorem cm_if {c : Code} {φ : Prop} [Decidable φ] (h1 : φ → Cm P n w0 c Q m1 e H) (h2 : ¬ φ → Cm P n w0 c Q m2 e H) : Cm P n w0 c Q (if φ then m1 else m2) e H := by
  split
  · exact h1 ‹_›
  · exact h2 ‹_›
theorem lm_if {ops : Array Oper} {l : List Oper} {φ : Prop} [Decidable φ] (h1 : φ → Lm P n w0 ops Q l m1 e H) (h2 : ¬ φ → Lm P n w0 ops Q l m2 e H) : Lm P n w0 ops Q l (if φ then m1 else m2) e H := by
  split
  · exact h1 ‹_›
  · exact h2 ‹_›
/-- A call's model is looked at ahead. -/
theorem cm_bind {α : Type} {c : Code} {mf : Option α} {k : α → Option ρ} (h : ∀ r, mf = some r → Cm P n w0 c Q (k r) e H) : Cm P n w0 c Q (mf.bind k) e H := fun r hr => by
  cases hm : mf with
  | none => rw [hm] at hr; cases hr
  | some a => rw [hm] at hr; exact h a hm r hr
theorem cm_callIf {α : Type} [Inhabited α] {c : Code} {g : Prop} [Decidable g] {mf : Option α} {k : α → Option ρ} (h : ∀ r, (g → mf = some r) → Cm P n w0 c Q (k r) e H) : Cm P n w0 c Q (callIf g mf k) e H := fun r hr => by
  unfold callIf at hr
  split at hr
  · cases hm : mf with
    | none => rw [hm] at hr; cases hr
    | some a => rw [hm] at hr; exact h a (fun _ => hm) r hr
  · exact h _ (fun hg => absurd hg ‹_›) r hr
theorem cm_seq {x y : Code} (h : Cm P n w0 x (fun r => Exit.then (y.wp P (Q r)) (Q r)) m e H) : Cm P n w0 (.seq x y) Q m e H := fun r hr w hw => wc_seq (h r hr w hw)
theorem cm_block {id : Nat} {c : Code} (h : Cm P n w0 c (fun r => Exit.inBlock id (Q r)) m e H) : Cm P n w0 (.block id c) Q m e H := fun r hr w hw => wc_block (h r hr w hw)
theorem cm_skip (h : Xm n w0 Q .normal m e H) : Cm P n w0 .skip Q m e H := fun r hr w hw => wc_skip (h r hr w hw)
theorem cm_exit {id : Nat} (h : Xm n w0 Q (.exit id) m e H) : Cm P n w0 (.exit id) Q m e H := fun r hr w hw => wc_exit (h r hr w hw)
theorem cm_ret (h : Xm n w0 Q .ret m e H) : Cm P n w0 .ret Q m e H := fun r hr w hw => wc_ret (h r hr w hw)
theorem cm_region {id : Nat} {l : List Oper} (h : Lm P n w0 l.toArray Q l m e H) : Cm P n w0 (.region id l.toArray false) Q m e H := fun r hr w hw => wc_region (h r hr w hw)
theorem cm_cond {c : Operand} {x y : Code} {φ : Prop} [Decidable φ] (hk : eknown e c = true) (hc : eev e c = .bool (decide φ)) (h1 : φ → Cm P n w0 x Q m1 e H) (h2 : ¬ φ → Cm P n w0 y Q m2 e H) : Cm P n w0 (.cond c x y) Q (if φ then m1 else m2) e H := fun r hr w hw =>
  wc_cond hk hc (fun h => h1 (of_decide_eq_true h) r (by rwa [if_pos (of_decide_eq_true h)] at hr) w hw) (fun h => h2 (of_decide_eq_false h) r (by rwa [if_neg (of_decide_eq_false h)] at hr) w hw)
theorem cm_condB {c : Operand} {x y : Code} {b : Bool} (hk : eknown e c = true) (hc : eev e c = .bool b) (h1 : b = true → Cm P n w0 x Q m1 e H) (h2 : b = false → Cm P n w0 y Q m2 e H) : Cm P n w0 (.cond c x y) Q (if b = true then m1 else m2) e H := fun r hr w hw =>
  wc_cond hk hc (fun h => h1 h r (by rwa [if_pos h] at hr) w hw) (fun h => h2 h r (by rwa [if_neg (by rw [h]; decide)] at hr) w hw)
theorem cm_cond_t {c : Operand} {x y : Code} (hk : eknown e c = true) (hc : eev e c = .bool true) (h : Cm P n w0 x Q m e H) : Cm P n w0 (.cond c x y) Q m e H := fun r hr w hw => wc_cond_t hk hc (h r hr w hw)
theorem cm_cond_f {c : Operand} {x y : Code} (hk : eknown e c = true) (hc : eev e c = .bool false) (h : Cm P n w0 y Q m e H) : Cm P n w0 (.cond c x y) Q m e H := fun r hr w hw => wc_cond_f hk hc (h r hr w hw)
theorem cm_sub {c : Code} (h1 : Sub e e') (h2 : HSub w0 H H') (h : Cm P n w0 c Q m e' H') : Cm P n w0 c Q m e H := fun r hr w hw => wc_sub h1 (h r hr w (h2 w hw))
theorem cm_sube {c : Code} (h1 : Sub e e') (h : Cm P n w0 c Q m e' H) : Cm P n w0 c Q m e H := fun r hr w hw => wc_sub h1 (h r hr w hw)
theorem cm_hsub {c : Code} (h2 : HSub w0 H H') (h : Cm P n w0 c Q m e H') : Cm P n w0 c Q m e H := fun r hr w hw => h r hr w (h2 w hw)
theorem lm_hsub {ops : Array Oper} {l : List Oper} (h2 : HSub w0 H H') (h : Lm P n w0 ops Q l m e H') : Lm P n w0 ops Q l m e H := fun r hr w hw => h r hr w (h2 w hw)
/-- Exits. -/
theorem xm_next {y : Code} {Q' : ρ → Exit → Act → World → Prop} (h : Cm P n w0 y Q' m e H) : Xm n w0 (fun r => Exit.then (y.wp P (Q' r)) (Q r)) .normal m e H := fun r hr w hw => wx_next (h r hr w hw)
theorem xm_thenE {y : ρ → Act → World → Prop} {i : Nat} (h : Xm n w0 Q (.exit i) m e H) : Xm n w0 (fun r => Exit.then (y r) (Q r)) (.exit i) m e H := h
theorem xm_thenR {y : ρ → Act → World → Prop} (h : Xm n w0 Q .ret m e H) : Xm n w0 (fun r => Exit.then (y r) (Q r)) .ret m e H := h
theorem xm_inR {i : Nat} (h : Xm n w0 Q .ret m e H) : Xm n w0 (fun r => Exit.inBlock i (Q r)) .ret m e H := h
theorem xm_inN {i : Nat} (h : Xm n w0 Q .normal m e H) : Xm n w0 (fun r => Exit.inBlock i (Q r)) .normal m e H := h
theorem xm_here {i : Nat} (h : Xm n w0 Q .normal m e H) : Xm n w0 (fun r => Exit.inBlock i (Q r)) (.exit i) m e H := fun r hr w hw => wx_here (h r hr w hw)
theorem xm_pass {i j : Nat} (hij : Nat.beq j i = false) (h : Xm n w0 Q (.exit j) m e H) : Xm n w0 (fun r => Exit.inBlock i (Q r)) (.exit j) m e H := fun r hr w hw => wx_pass (fun h => by rw [h, Nat.beq_refl] at hij; cases hij) (h r hr w hw)
section
variable {σ ξ : Type} {E : σ → ξ → Env} {HH : σ → ξ → List HE}
theorem xm_lnext {s : σ} (x : ξ) (h1 : Sub e (E s x)) (h2 : HSub w0 H (HH s x)) : Xm n w0 (QL n w0 E HH Q) .normal (some (.next s)) e H := fun r hr w hw a hf => by
  injection hr with hr; subst hr
  exact ⟨rfl, x, h1 n a hf, h2 w hw⟩
theorem xm_lexit {i : Nat} {r : ρ} (h : Xm n w0 Q (.exit i) (some r) e H) : Xm n w0 (QL n w0 E HH Q) (.exit i) (some (.done r)) e H := fun r' hr w hw a hf => by
  injection hr with hr; subst hr
  exact ⟨by simp, h r rfl w hw a hf⟩
theorem xm_lret {r : ρ} (h : Xm n w0 Q .ret (some r) e H) : Xm n w0 (QL n w0 E HH Q) .ret (some (.done r)) e H := fun r' hr w hw a hf => by
  injection hr with hr; subst hr
  exact ⟨by simp, h r rfl w hw a hf⟩
/-- A loop against its model. -/
theorem cm_loop {c : Code} {f : σ → Option (Step σ ρ)} {N : Nat} {s0 : σ} (E : σ → ξ → Env) (HH : σ → ξ → List HE) (x0 : ξ) (h1 : Sub e (E s0 x0)) (h2 : HSub w0 H (HH s0 x0))
    (round : ∀ s x, Cm P n w0 c (QL n w0 E HH Q) (f s) (E s x) (HH s x)) : Cm P n w0 (.loop c) Q (loopM f N s0) e H := by
  intro r hr w hw a hf b k cs
  have key : ∀ N s x a w, loopM f N s = some r → Fr n a (E s x) → Hs w0 (HH s x) w → ∃ y a' w', Q r y a' w' ∧ Arrives P (lone (b.at a (.code c :: .inLoop c :: k)) cs w) b k cs y a' w' := by
    intro N
    induction N with
    | zero => intro s x a w hl; cases hl
    | succ N ih =>
      intro s x a w hl hfr hH
      unfold loopM at hl
      cases hfs : f s with
      | none => rw [hfs] at hl; cases hl
      | some st =>
        rw [hfs] at hl
        obtain ⟨y, a1, w1, hq, harr⟩ := round s x st hfs w hH a hfr b (.inLoop c :: k) cs
        cases st with
        | next s' =>
          obtain ⟨rfl, x', hf', hH'⟩ := hq
          obtain ⟨y2, a2, w2, hq2, harr2⟩ := ih s' x' a1 w1 hl hf' hH'
          exact ⟨y2, a2, w2, hq2, .of_steps (Steps.trans harr (.one step_inLoop)) harr2⟩
        | done r' =>
          simp only [Option.some.injEq] at hl
          subst hl
          obtain ⟨hy, hq⟩ := hq
          cases y with
          | normal => exact absurd rfl hy
          | exit id => exact ⟨_, a1, w1, hq, .pass (x := .inLoop c) rfl (fun _ _ => .inl (by simp)) harr⟩
          | goto l => exact ⟨_, a1, w1, hq, .pass (x := .inLoop c) rfl (fun _ _ => .inl (by simp)) harr⟩
          | ret => exact ⟨_, a1, w1, hq, .pass (x := .inLoop c) rfl (fun _ _ => .inl (by simp)) harr⟩
          | panic ch => exact ⟨_, a1, w1, hq, .pass (x := .inLoop c) rfl (fun _ _ => .inl (by simp)) harr⟩
          | outgrown => exact ⟨_, a1, w1, hq, .pass (x := .inLoop c) rfl (fun _ _ => .inl (by simp)) harr⟩
  obtain ⟨y, a', w', hq, harr⟩ := key N s0 x0 a w hr (h1 n a hf) (h2 w hw)
  exact ⟨y, a', w', hq, .of_steps (.one step_loop) harr⟩
/-- A joint: what follows is shown once. -/
theorem cm_join {x y : Code} {mx : Option (Step σ ρ)} {k : σ → Option ρ} (E : σ → ξ → Env) (HH : σ → ξ → List HE) (h : Cm P n w0 x (QL n w0 E HH Q) mx e H) (hk : ∀ t u, Cm P n w0 y Q (k t) (E t u) (HH t u)) : Cm P n w0 (.seq x y) Q (andThen mx k) e H := by
  intro r hr w hw
  refine wc_seq ?_
  cases hmx : mx with
  | none => rw [hmx] at hr; cases hr
  | some st =>
    rw [hmx] at hr
    intro a hf
    refine Code.wp_mono ?_ (h st hmx w hw a hf)
    intro z a' w' hq
    cases st with
    | next t =>
      obtain ⟨rfl, u, hf', hH'⟩ := hq
      exact hk t u r hr w' hH' a' hf'
    | done r' =>
      injection hr with hr
      subst hr
      obtain ⟨hz, hq⟩ := hq
      cases z <;> first | exact absurd rfl hz | exact hq
end
/-! ### Operations in a row -/
variable {ops : Array Oper} {o : Oper} {rest : List Oper}
theorem lm_nil (h : Xm n w0 Q .normal m e H) : Lm P n w0 ops Q [] m e H := fun r hr w hw => wl_nil (h r hr w hw)
theorem lm_val (d : Nat) {v : Value} (hc : chk ops e n o d true = true) (hv : ∀ w, Hs w0 H w → OpV P e w o v) (next : Lm P n w0 ops Q rest m ((d, v) :: e) H) : Lm P n w0 ops Q (o :: rest) m e H := fun r hr w hw => wl_val d hc (hv w hw) (next r hr w hw)
theorem lm_skip (d : Nat) (hc : chk ops e n o d false = true) (next : Lm P n w0 ops Q rest m ((d, undef) :: e) H) : Lm P n w0 ops Q (o :: rest) m e H := fun r hr w hw => wl_skip d hc (next r hr w hw)
/-- An operation that splits the walk; the model stays whole. -/
theorem lm_dec (d : Nat) {φ : Prop} [Decidable φ] (hc : chk ops e n o d true = true) (hv : ∀ w, Hs w0 H w → OpV P e w o (.bool (decide φ))) (ht : φ → Lm P n w0 ops Q rest m ((d, .bool true) :: e) H) (hf : ¬ φ → Lm P n w0 ops Q rest m ((d, .bool false) :: e) H) : Lm P n w0 ops Q (o :: rest) m e H := fun r hr w hw =>
  wl_dec d hc (hv w hw) (fun h => ht h r hr w hw) (fun h => hf h r hr w hw)
theorem lm_bool (d : Nat) {b : Bool} (hc : chk ops e n o d true = true) (hv : ∀ w, Hs w0 H w → OpV P e w o (.bool b)) (ht : b = true → Lm P n w0 ops Q rest m ((d, .bool true) :: e) H) (hf : b = false → Lm P n w0 ops Q rest m ((d, .bool false) :: e) H) : Lm P n w0 ops Q (o :: rest) m e H := fun r hr w hw =>
  wl_bool d hc (hv w hw) (fun h => ht h r hr w hw) (fun h => hf h r hr w hw)
/-- A call: its model first. -/
theorem lm_call (d : Nat) {α ξ : Type} {f : FuncId} {args : Array Value} {mf : Option α} {k : α → Option ρ} {V : α → ξ → Value} {HR : α → ξ → List HE} (hc : chk ops e n o d true = true)
    (hv : ∀ w, (execOp (eev e) o).run P w = .ok (.enter f args) w)
    (hR : ∀ r, mf = some r → ∀ w, Hs w0 H w → Calls P f args w fun x w' => ∃ u, x = .returned (V r u) ∧ Hs w (HR r u) w')
    (next : ∀ r u, Lm P n w0 ops Q rest (k r) ((d, V r u) :: e) (HR r u ++ H)) : Lm P n w0 ops Q (o :: rest) (mf.bind k) e H := fun r hr w hw => by
  cases hm : mf with
  | none => rw [hm] at hr; cases hr
  | some a =>
    rw [hm] at hr
    refine wl_call d hc (hv w) (hR a hm w hw) ?_
    rintro x w' ⟨u, rfl, hu⟩
    exact ⟨_, rfl, next a u r hr w' (hw.call hu)⟩
/-- Drawn regions without effects, and regions whose ways meet. -/
theorem cm_drawn {id : Nat} {l : List Oper} {K' : ρ → Act → World → Prop} (O : Env) (hm : P.follows .mixedOrders = true) (hB : Region.lexB .any l.toArray = true)
    (h : wq P n l.toArray (Hs w0 H) (fun a => Fr n a (O ++ e)) l e) (k : Xm n w0 (fun r => Exit.then (K' r) (Q r)) .normal m (O ++ e) H) : Cm P n w0 (.region id l.toArray true) (fun r => Exit.then (K' r) (Q r)) m e H := fun r hr _ hw =>
  wc_drawn (Hs w0 H) O hm hB hw.drew h fun w' hw' => k r hr w' hw'
theorem cm_cutE {id : Nat} {l : List Oper} {K' : ρ → Act → World → Prop} (O : Env) (h : wq P n l.toArray (Hs w0 H) (fun a => Fr n a (O ++ e)) l e) (k : Xm n w0 (fun r => Exit.then (K' r) (Q r)) .normal m (O ++ e) H) : Cm P n w0 (.region id l.toArray false) (fun r => Exit.then (K' r) (Q r)) m e H := fun r hr w hw a hf => by
  refine Code.wp_mono (Q := fun x a w => x = .normal ∧ Fr n a (O ++ e) ∧ Hs w0 H w) (fun x a w' hq => ?_) (wp_region_lit ?_)
  · obtain ⟨rfl, hf', hw'⟩ := hq
    exact k r hr w' hw' a hf'
  · exact wpList_of_quiet (h a hf) hw
/-- A region at the end of a block or a loop. -/
theorem cm_of_then {c : Code} (h : Cm P n w0 c (fun r => Exit.then (fun a w => Q r .normal a w) (Q r)) m e H) : Cm P n w0 c Q m e H := fun r hr w hw a hf =>
  Code.wp_mono (fun x a w q => by cases x <;> exact q) (h r hr w hw a hf)
theorem xm_of_then (h : Xm n w0 Q .normal m e H) : Xm n w0 (fun r => Exit.then (fun a w => Q r .normal a w) (Q r)) .normal m e H := h
theorem calls_cm {f : FuncId} {fn : Func} {c : Code} {args : List Value} {R : ρ → Ending → World → Prop} (hf : P.funcs[f]? = some fn) (hb : fn.body = some c) (hn : fn.ntmps = n) (hl : args.length ≤ n)
    (h : Cm P n w0 c (fun r => bodyPost P fn (R r)) m (argEnv 0 args) []) (r : ρ) (hr : m = some r) : Calls P f args.toArray w0 (R r) :=
  calls_wc hf hb hn hl (h r hr w0 (Hs.refl w0))
end
end Go.Proofs.YtpbgfdmkebnjgaaGreatDoor
