/- Deco, the core: code against a model (an Option of data); memory as a list of entries apart from each other; rules for code, loops, joints, regions and calls. Over any program. -/
import Derived.Test.YtbnimhmoffchdaaGreatDoorKA
import Derived.Laws.OwnMore
import Derived.Maps.AppendAt
import Derived.Deep.RegionHeld
namespace Go.Proofs.YtbnimhmoffchdaaGreatDoor
open Go.RowKit

/-! ### Models -/
inductive Step (σ ρ : Type) where
 | next (s : σ)
 | done (r : ρ)
def ck {ρ : Type} (φ : Prop) [Decidable φ] (m : Option ρ) : Option ρ := if φ then m else none
def andThen {τ ρ : Type} (m : Option (Step τ ρ)) (k : τ → Option ρ) : Option ρ :=
 match m with
 | none => none
 | some (.next t) => k t
 | some (.done r) => some r
def loopM {σ ρ : Type} (f : σ → Option (Step σ ρ)) : Nat → σ → Option ρ
 | 0, _ => none
 | n + 1, s => match f s with
  | none => none
  | some (.next s') => loopM f n s'
  | some (.done r) => some r
/-- A call that is made only if g. -/
def callIf {α ρ : Type} [Inhabited α] (g : Prop) [Decidable g] (m : Option α) (k : α → Option ρ) : Option ρ := if g then m.bind k else k default
theorem ck_true {ρ : Type} {φ : Prop} [Decidable φ] {m : Option ρ} (h : φ) : ck φ m = m := if_pos h
theorem ck_some {ρ : Type} {φ : Prop} [Decidable φ] {m : Option ρ} {r : ρ} (h : ck φ m = some r) : φ ∧ m = some r := by
 unfold ck at h
 split at h
 ·exact ⟨‹φ›, h⟩
 ·cases h
def ix {α : Type} [Inhabited α] (l : List α) (i : Int) : α := l.getD i.toNat default
theorem ix_get {α : Type} [Inhabited α] {l : List α} {i : Int} (h0 : 0 ≤ i) (h1 : i < l.length) : l[i.toNat]? = some (ix l i) := by
 have hl : i.toNat < l.length := by omega
 unfold ix
 rw [List.getD_eq_getElem?_getD, List.getElem?_eq_getElem hl]
 rfl

/-! ### Memory -/
/-- An entry: the blocks that it is about, and what it says of them. -/
structure HE where
 S : Nat → Prop
 X : World → Prop
 loc : ∀ w w', (∀ b, S b → w'.heap[b]? = w.heap[b]?) → X w → X w'
def Sep (B : Nat) : List HE → World → Prop
 | [], _ => True
 | h :: H, w => h.X w ∧ (∀ b, h.S b → B ≤ b ∧ b < w.heap.size) ∧ (∀ k ∈ H, ∀ b, h.S b → ¬ k.S b) ∧ Sep B H w
/-- Whether draws are not counted any more (a library contract says nothing of them). -/
class JF where
 j : Bool
instance (priority := low) jfTrue : JF := ⟨true⟩
set_option linter.unusedSectionVars false
variable [JF]
/-- Old memory is as it was in w0; the entries hold of new memory and lie apart. -/
structure Hs (w0 : World) (H : List HE) (w : World) : Prop where
 old : Below w0.heap.size w0 w
 dr : JF.j = false → w0.drawn ≤ w.drawn
 sep : Sep w0.heap.size H w
theorem Sep.get {B : Nat} {w : World} {h : HE} : ∀ {H : List HE} {k : Nat}, H[k]? = some h → Sep B H w → h.X w ∧ ∀ b, h.S b → B ≤ b ∧ b < w.heap.size
 | [], _, hk, _ => by simp at hk
 | g :: H, 0, hk, hs => by
  simp at hk; subst hk; exact ⟨hs.1, hs.2.1⟩
 | g :: H, k + 1, hk, hs => Sep.get (H := H) (k := k) (by simpa using hk) hs.2.2.2
theorem Hs.get {w0 w : World} {H : List HE} {h : HE} (hs : Hs w0 H w) (k : Nat) (hk : H[k]? = some h) : h.X w := (hs.sep.get hk).1
theorem Hs.at_ {w0 w : World} {H : List HE} (hs : Hs w0 H w) (k : Nat) {h : HE} (hk : H[k]? = some h) : h.X w ∧ ∀ b, h.S b → w0.heap.size ≤ b ∧ b < w.heap.size := hs.sep.get hk
theorem Sep.keep {B : Nat} {w w' : World} (hz : w.heap.size ≤ w'.heap.size) : ∀ {H : List HE}, (∀ k ∈ H, ∀ b, k.S b → w'.heap[b]? = w.heap[b]?) → Sep B H w → Sep B H w'
 | [], _, _ => trivial
 | h :: _, hb, hs => ⟨h.loc w w' (hb h (List.mem_cons_self ..)) hs.1, fun b hS => ⟨(hs.2.1 b hS).1, Nat.lt_of_lt_of_le (hs.2.1 b hS).2 hz⟩, hs.2.2.1, Sep.keep hz (fun k hk => hb k (List.mem_cons_of_mem _ hk)) hs.2.2.2⟩
theorem Sep.lt {B : Nat} {w : World} : ∀ {H : List HE}, Sep B H w → ∀ k ∈ H, ∀ b, k.S b → B ≤ b ∧ b < w.heap.size
 | [], _, k, hk => by cases hk
 | h :: H, hs, k, hk => by
  rcases List.mem_cons.1 hk with rfl | hk
  ·exact hs.2.1
  ·exact Sep.lt hs.2.2.2 k hk
theorem Sep.append {B : Nat} {w : World} : ∀ {G H : List HE}, Sep B G w → Sep B H w → (∀ g ∈ G, ∀ h ∈ H, ∀ b, g.S b → ¬ h.S b) → Sep B (G ++ H) w
 | [], _, _, h2, _ => h2
 | g :: G, H, h1, h2, hd => ⟨h1.1, h1.2.1, fun k hk b hb => by
   rcases List.mem_append.1 hk with hk | hk
   ·exact h1.2.2.1 k hk b hb
   ·exact hd g (List.mem_cons_self ..) k hk b hb, Sep.append h1.2.2.2 h2 fun x hx => hd x (List.mem_cons_of_mem _ hx)⟩
theorem Sep.lower {B B' : Nat} {w : World} (hB : B' ≤ B) : ∀ {H : List HE}, Sep B H w → Sep B' H w
 | [], _ => trivial
 | _ :: _, hs => ⟨hs.1, fun b hb => ⟨Nat.le_trans hB (hs.2.1 b hb).1, (hs.2.1 b hb).2⟩, hs.2.2.1, Sep.lower hB hs.2.2.2⟩
theorem Hs.refl (w : World) : Hs w [] w := ⟨Below.refl _ _, fun _ => Nat.le_refl _, trivial⟩
theorem Hs.drN {w0 w w' : World} {H : List HE} (hs : Hs w0 H w) (hd : Dr w w') : Hs w0 H w' := by
 obtain ⟨m, rfl⟩ := hd
 exact ⟨below_drewN hs.old m, fun h => Nat.le_trans (hs.dr h) (Nat.le_add_right _ m), Sep.keep (w := w) (w' := w.drewN m) (Nat.le_refl _) (fun _ _ _ _ => rfl) hs.sep⟩
theorem Hs.drew {w0 w : World} {H : List HE} (hs : Hs w0 H w) : Hs w0 H w.drew := hs.drN (Dr.one w)
/-- What a call leaves, in the caller's words. -/
theorem Hs.call {w0 w w' : World} {H G : List HE} (hs : Hs w0 H w) (hc : Hs w G w') : Hs w0 (G ++ H) w' := by
 have hle := hs.old.size
 refine ⟨hs.old.trans (hc.old.mono hle), fun h => Nat.le_trans (hs.dr h) (hc.dr h), ?_⟩
 refine Sep.append (hc.sep.lower hle) (hs.sep.keep hc.old.size fun k hk b hb => hc.old.block b (hs.sep.lt k hk b hb).2) ?_
 intro g hg h hh b hb hb'
 have h1 := (hc.sep.lt g hg b hb).1
 have h2 := (hs.sep.lt h hh b hb').2
 omega
theorem Sep.set_ {B : Nat} {w w' : World} {h h' : HE} (hz : w.heap.size ≤ w'.heap.size) (hbB : B ≤ w.heap.size) : ∀ {H : List HE} {k : Nat}, H[k]? = some h → Sep B H w → (∀ b, b < w.heap.size → ¬ h.S b → w'.heap[b]? = w.heap[b]?) → h'.X w' → (∀ b, h'.S b → (h.S b ∨ w.heap.size ≤ b) ∧ b < w'.heap.size) → Sep B (H.set k h') w'
 | [], _, hk, _, _, _, _ => by simp at hk
 | g :: H, 0, hk, hs, hb, hX, hS => by
  simp at hk; subst hk
  refine ⟨hX, fun b hb' => ⟨?_, (hS b hb').2⟩, fun k hk b hb' hkb => ?_, hs.2.2.2.keep hz fun k hk b hkb => hb b (hs.2.2.2.lt k hk b hkb).2 fun hgb => hs.2.2.1 k hk b hgb hkb⟩
  ·rcases (hS b hb').1 with h | h
   ·exact (hs.2.1 b h).1
   ·omega
  ·rcases (hS b hb').1 with h | h
   ·exact hs.2.2.1 k hk b h hkb
   ·have := (hs.2.2.2.lt k hk b hkb).2; omega
 | g :: H, k + 1, hk, hs, hb, hX, hS => by
  have hk' : H[k]? = some h := by simpa using hk
  have hm : h ∈ H := List.mem_of_getElem? hk'
  refine ⟨g.loc w w' (fun b hgb => hb b (hs.2.1 b hgb).2 fun hhb => hs.2.2.1 h hm b hgb hhb) hs.1, fun b hgb => ⟨(hs.2.1 b hgb).1, Nat.lt_of_lt_of_le (hs.2.1 b hgb).2 hz⟩, fun x hx b hgb hxb => ?_, Sep.set_ hz hbB hk' hs.2.2.2 hb hX hS⟩
  rcases List.mem_or_eq_of_mem_set hx with hx | rfl
  ·exact hs.2.2.1 x hx b hgb hxb
  ·rcases (hS b hxb).1 with h1 | h1
   ·exact hs.2.2.1 h hm b hgb h1
   ·have := (hs.2.1 b hgb).2; omega
/-- Entry k is turned, all else stays. -/
theorem Hs.set_ {w0 w w' : World} {H : List HE} {h h' : HE} (hs : Hs w0 H w) (k : Nat) (hk : H[k]? = some h) (hg : Below 0 w w') (hd : w.drawn ≤ w'.drawn) (hb : ∀ b, b < w.heap.size → ¬ h.S b → w'.heap[b]? = w.heap[b]?) (hX : h'.X w') (hS : ∀ b, h'.S b → (h.S b ∨ w.heap.size ≤ b) ∧ b < w'.heap.size) : Hs w0 (H.set k h') w' := by
 obtain ⟨h1, h2⟩ := hs.at_ k hk
 refine ⟨⟨hg.os.trans hs.old.os, hg.tape.trans hs.old.tape, hg.output.trans hs.old.output, Nat.le_trans hs.old.size hg.size, fun b hb' => ?_⟩, fun h => Nat.le_trans (hs.dr h) hd, Sep.set_ hg.size hs.old.size hk hs.sep hb hX hS⟩
 rw [hb b (Nat.lt_of_lt_of_le hb' hs.old.size) fun hSb => by have := (h2 b hSb).1; omega]
 exact hs.old.block b hb'
/-- A new entry on new blocks. -/
theorem Hs.push {w0 w w' : World} {H : List HE} {h : HE} (hs : Hs w0 H w) (hb : Below w.heap.size w w') (hd : w.drawn ≤ w'.drawn) (hX : h.X w') (hS : ∀ b, h.S b → w.heap.size ≤ b ∧ b < w'.heap.size) : Hs w0 (h :: H) w' :=
 hs.call (G := [h]) ⟨hb, fun _ => hd, hX, fun b h => ⟨(hS b h).1, (hS b h).2⟩, fun k hk => (by cases hk), trivial⟩
/-- Entries that are asked for, by their places. -/
def hsel (H : List HE) : List Nat → Option (List HE)
 | [] => some []
 | k :: ks => match H[k]?, hsel H ks with
  | some h, some l => some (h :: l)
  | _, _ => none
def nodupB : List Nat → Bool
 | [] => true
 | k :: ks => !(ks.any (Nat.beq k)) && nodupB ks
theorem Sep.pair {B : Nat} {w : World} {a b : HE} : ∀ {H : List HE} {i j : Nat}, Sep B H w → H[i]? = some a → H[j]? = some b → i ≠ j → ∀ x, a.S x → ¬ b.S x
 | [], _, _, _, h, _, _ => by simp at h
 | g :: H, 0, 0, _, _, _, h => absurd rfl h
 | g :: H, 0, j + 1, hs, hi, hj, _ => fun x hx => by
  simp at hi; subst hi
  exact hs.2.2.1 b (List.mem_of_getElem? (by simpa using hj)) x hx
 | g :: H, i + 1, 0, hs, hi, hj, _ => fun x hx hx' => by
  simp at hj; subst hj
  exact hs.2.2.1 a (List.mem_of_getElem? (by simpa using hi)) x hx' hx
 | g :: H, i + 1, j + 1, hs, hi, hj, hn => Sep.pair (H := H) (i := i) (j := j) hs.2.2.2 (by simpa using hi) (by simpa using hj) (by omega)
theorem hsel_mem {H : List HE} : ∀ {ks : List Nat} {l : List HE}, hsel H ks = some l → ∀ h ∈ l, ∃ k ∈ ks, H[k]? = some h
 | [], l, hl, h, hh => by simp [hsel] at hl; subst hl; cases hh
 | k :: ks, l, hl, h, hh => by
  unfold hsel at hl
  split at hl
  ·rename_i g l' hg hl'
   injection hl with hl; subst hl
   rcases List.mem_cons.1 hh with rfl | hh
   ·exact ⟨k, List.mem_cons_self .., hg⟩
   ·obtain ⟨k', h1, h2⟩ := hsel_mem hl' h hh
    exact ⟨k', List.mem_cons_of_mem _ h1, h2⟩
  ·cases hl
theorem Sep.sel {B : Nat} {w : World} {H : List HE} (hs : Sep B H w) : ∀ {ks : List Nat} {l : List HE}, nodupB ks = true → hsel H ks = some l → Sep B l w
 | [], l, _, hl => by simp [hsel] at hl; subst hl; trivial
 | k :: ks, l, hn, hl => by
  unfold hsel at hl
  split at hl
  ·rename_i g l' hg hl'
   injection hl with hl; subst hl
   unfold nodupB at hn
   simp only [Bool.and_eq_true, Bool.not_eq_true'] at hn
   obtain ⟨h1, h2⟩ := hs.get hg
   refine ⟨h1, h2, fun x hx b hb => ?_, Sep.sel hs hn.2 hl'⟩
   obtain ⟨k', hk', hx'⟩ := hsel_mem hl' x hx
   refine hs.pair hg hx' ?_ b hb
   rintro rfl
   have := List.any_eq_false.1 hn.1 k hk'
   rw [Nat.beq_refl] at this
   exact this rfl
  ·cases hl
/-- All that H says, H' says. -/
def HSub (w0 : World) (H H' : List HE) : Prop := ∀ w, Hs w0 H w → Hs w0 H' w
theorem hsub (ks : List Nat) {w0 : World} {H H' : List HE} (h1 : nodupB ks = true) (h2 : hsel H ks = some H') : HSub w0 H H' := fun _ hs => ⟨hs.old, hs.dr, hs.sep.sel h1 h2⟩

theorem wpList_of_quiet {P : Program} {ops : Array Oper} {C : World → Prop} {K : Act → Prop} : ∀ {l : List Oper} {a : Act} {w : World}, wpQuiet P ops C K l a → C w → wpList P ops (fun x a w => x = .normal ∧ K a ∧ C w) l a w
 | [], a, w, h, hw => ⟨rfl, h, hw⟩
 | o :: rest, a, w, h, hw => by
  unfold wpQuiet at h
  unfold wpList
  split
  ·rename_i hwd
   rw [if_pos hwd] at h
   obtain ⟨v, h1, h2⟩ := h
   refine .inl ?_
   have h3 := h1 w hw
   unfold Oper.quietAt at h3
   unfold Oper.wp
   revert h3
   generalize (execOp a.eval o).run P w = res
   intro h3
   unfold Oper.quietUpon at h3
   split at h3
   ·obtain ⟨rfl, rfl⟩ := h3
    exact wpList_of_quiet h2 hw
   ·obtain ⟨rfl, rfl⟩ := h3
    exact wpList_of_quiet h2 hw
   ·obtain ⟨rfl, h3⟩ := h3
    refine h3.mono fun x w' hx => ?_
    obtain ⟨rfl, hC⟩ := hx
    exact wpList_of_quiet h2 hC
   ·cases h3
  ·rename_i hwd
   rw [if_neg hwd] at h
   exact wpList_of_quiet h hw

/-! ### Judgements -/
section
variable (P : Program) (n : Nat) (w0 : World)
def Cm {ρ : Type} (c : Code) (Q : ρ → Exit → Act → World → Prop) (m : Option ρ) (e : Env) (H : List HE) : Prop := ∀ r, m = some r → ∀ w, Hs w0 H w → wc P n c (Q r) e w
def Xm {ρ : Type} (Q : ρ → Exit → Act → World → Prop) (x : Exit) (m : Option ρ) (e : Env) (H : List HE) : Prop := ∀ r, m = some r → ∀ w, Hs w0 H w → wx n (Q r) x e w
def Lm {ρ : Type} (ops : Array Oper) (Q : ρ → Exit → Act → World → Prop) (l : List Oper) (m : Option ρ) (e : Env) (H : List HE) : Prop := ∀ r, m = some r → ∀ w, Hs w0 H w → wl P n ops (Q r) l e w
end
def QL {σ ξ ρ : Type} (n : Nat) (w0 : World) (E : σ → ξ → Env) (HH : σ → ξ → List HE) (Q : ρ → Exit → Act → World → Prop) : Step σ ρ → Exit → Act → World → Prop
 | .next s => fun y a w => y = .normal ∧ ∃ x, Fr n a (E s x) ∧ Hs w0 (HH s x) w
 | .done r => fun y a w => y ≠ .normal ∧ Q r y a w
section
variable {P : Program} {n : Nat} {w0 : World} {ρ : Type} {Q : ρ → Exit → Act → World → Prop} {m m1 m2 : Option ρ} {e e' : Env} {H H' : List HE}
theorem cm_none {c : Code} : Cm P n w0 c Q (none : Option ρ) e H := fun _ hr => by cases hr
theorem cm_ck {c : Code} {φ : Prop} [Decidable φ] (h : φ → Cm P n w0 c Q m e H) : Cm P n w0 c Q (ck φ m) e H := fun r hr => h (ck_some hr).1 r (ck_some hr).2
theorem lm_ck {ops : Array Oper} {l : List Oper} {φ : Prop} [Decidable φ] (h : φ → Lm P n w0 ops Q l m e H) : Lm P n w0 ops Q l (ck φ m) e H := fun r hr => h (ck_some hr).1 r (ck_some hr).2
/-- A call's model is looked at ahead. -/
theorem cm_bind {α : Type} {c : Code} {mf : Option α} {k : α → Option ρ} (h : ∀ r, mf = some r → Cm P n w0 c Q (k r) e H) : Cm P n w0 c Q (mf.bind k) e H := fun r hr => by
 cases hm : mf with
 | none => rw [hm] at hr; cases hr
 | some a => rw [hm] at hr; exact h a hm r hr
theorem cm_callIf {α : Type} [Inhabited α] {c : Code} {g : Prop} [Decidable g] {mf : Option α} {k : α → Option ρ} (h : ∀ r, (g → mf = some r) → Cm P n w0 c Q (k r) e H) : Cm P n w0 c Q (callIf g mf k) e H := fun r hr => by
 unfold callIf at hr
 split at hr
 ·cases hm : mf with
  | none => rw [hm] at hr; cases hr
  | some a => rw [hm] at hr; exact h a (fun _ => hm) r hr
 ·exact h _ (fun hg => absurd hg ‹_›) r hr
theorem cm_seq {x y : Code} (h : Cm P n w0 x (fun r => Exit.then (y.wp P (Q r)) (Q r)) m e H) : Cm P n w0 (.seq x y) Q m e H := fun r hr w hw => wc_seq (h r hr w hw)
theorem cm_block {id : Nat} {c : Code} (h : Cm P n w0 c (fun r => Exit.inBlock id (Q r)) m e H) : Cm P n w0 (.block id c) Q m e H := fun r hr w hw => wc_block (h r hr w hw)
theorem cm_skip (h : Xm n w0 Q .normal m e H) : Cm P n w0 .skip Q m e H := fun r hr w hw => wc_skip (h r hr w hw)
theorem cm_exit {id : Nat} (h : Xm n w0 Q (.exit id) m e H) : Cm P n w0 (.exit id) Q m e H := fun r hr w hw => wc_exit (h r hr w hw)
theorem cm_ret (h : Xm n w0 Q .ret m e H) : Cm P n w0 .ret Q m e H := fun r hr w hw => wc_ret (h r hr w hw)
theorem cm_region {id : Nat} {l : List Oper} (h : Lm P n w0 l.toArray Q l m e H) : Cm P n w0 (.region id l.toArray false) Q m e H := fun r hr w hw => wc_region (h r hr w hw)
theorem cm_cond {c : Operand} {x y : Code} {φ : Prop} [Decidable φ] (hk : eknown e c = true) (hc : eev e c = .bool (decide φ)) (h1 : φ → Cm P n w0 x Q m1 e H) (h2 : ¬ φ → Cm P n w0 y Q m2 e H) : Cm P n w0 (.cond c x y) Q (if φ then m1 else m2) e H := fun r hr w hw =>
 wc_cond hk hc (fun h => h1 (of_decide_eq_true h) r (by rwa [if_pos (of_decide_eq_true h)] at hr) w hw) (fun h => h2 (of_decide_eq_false h) r (by rwa [if_neg (of_decide_eq_false h)] at hr) w hw)
theorem cm_condB {c : Operand} {x y : Code} {b : Bool} (hk : eknown e c = true) (hc : eev e c = .bool b) (h1 : b = true → Cm P n w0 x Q m1 e H) (h2 : b = false → Cm P n w0 y Q m2 e H) : Cm P n w0 (.cond c x y) Q (if b = true then m1 else m2) e H := fun r hr w hw =>
 wc_cond hk hc (fun h => h1 h r (by rwa [if_pos h] at hr) w hw) (fun h => h2 h r (by rwa [if_neg (by rw [h]; decide)] at hr) w hw)
theorem cm_cond_t {c : Operand} {x y : Code} (hk : eknown e c = true) (hc : eev e c = .bool true) (h : Cm P n w0 x Q m e H) : Cm P n w0 (.cond c x y) Q m e H := fun r hr w hw => wc_cond_t hk hc (h r hr w hw)
theorem cm_cond_f {c : Operand} {x y : Code} (hk : eknown e c = true) (hc : eev e c = .bool false) (h : Cm P n w0 y Q m e H) : Cm P n w0 (.cond c x y) Q m e H := fun r hr w hw => wc_cond_f hk hc (h r hr w hw)
/-- Exits. -/
theorem xm_next {y : Code} {Q' : ρ → Exit → Act → World → Prop} (h : Cm P n w0 y Q' m e H) : Xm n w0 (fun r => Exit.then (y.wp P (Q' r)) (Q r)) .normal m e H := fun r hr w hw => wx_next (h r hr w hw)
theorem xm_thenE {y : ρ → Act → World → Prop} {i : Nat} (h : Xm n w0 Q (.exit i) m e H) : Xm n w0 (fun r => Exit.then (y r) (Q r)) (.exit i) m e H := h
theorem xm_thenR {y : ρ → Act → World → Prop} (h : Xm n w0 Q .ret m e H) : Xm n w0 (fun r => Exit.then (y r) (Q r)) .ret m e H := h
theorem xm_inR {i : Nat} (h : Xm n w0 Q .ret m e H) : Xm n w0 (fun r => Exit.inBlock i (Q r)) .ret m e H := h
theorem xm_inN {i : Nat} (h : Xm n w0 Q .normal m e H) : Xm n w0 (fun r => Exit.inBlock i (Q r)) .normal m e H := h
theorem xm_here {i : Nat} (h : Xm n w0 Q .normal m e H) : Xm n w0 (fun r => Exit.inBlock i (Q r)) (.exit i) m e H := fun r hr w hw => wx_here (h r hr w hw)
theorem xm_pass {i j : Nat} (hij : Nat.beq j i = false) (h : Xm n w0 Q (.exit j) m e H) : Xm n w0 (fun r => Exit.inBlock i (Q r)) (.exit j) m e H := fun r hr w hw => wx_pass (fun h => by rw [h, Nat.beq_refl] at hij; cases hij) (h r hr w hw)
section
variable {σ ξ : Type} {E : σ → ξ → Env} {HH : σ → ξ → List HE}
theorem xm_lnext {s : σ} (x : ξ) (h1 : Sub e (E s x)) (h2 : HSub w0 H (HH s x)) : Xm n w0 (QL n w0 E HH Q) .normal (some (.next s)) e H := fun r hr w hw a hf => by
 injection hr with hr; subst hr
 exact ⟨rfl, x, h1 n a hf, h2 w hw⟩
theorem xm_lexit {i : Nat} {r : ρ} (h : Xm n w0 Q (.exit i) (some r) e H) : Xm n w0 (QL n w0 E HH Q) (.exit i) (some (.done r)) e H := fun r' hr w hw a hf => by
 injection hr with hr; subst hr
 exact ⟨by simp, h r rfl w hw a hf⟩
theorem xm_lret {r : ρ} (h : Xm n w0 Q .ret (some r) e H) : Xm n w0 (QL n w0 E HH Q) .ret (some (.done r)) e H := fun r' hr w hw a hf => by
 injection hr with hr; subst hr
 exact ⟨by simp, h r rfl w hw a hf⟩
/-- A loop against its model. -/
theorem cm_loop {c : Code} {f : σ → Option (Step σ ρ)} {N : Nat} {s0 : σ} (E : σ → ξ → Env) (HH : σ → ξ → List HE) (x0 : ξ) (h1 : Sub e (E s0 x0)) (h2 : HSub w0 H (HH s0 x0))
  (round : ∀ s x, Cm P n w0 c (QL n w0 E HH Q) (f s) (E s x) (HH s x)) : Cm P n w0 (.loop c) Q (loopM f N s0) e H := by
 intro r hr w hw a hf b k cs
 have key : ∀ N s x a w, loopM f N s = some r → Fr n a (E s x) → Hs w0 (HH s x) w → ∃ y a' w', Q r y a' w' ∧ Arrives P (lone (b.at a (.code c :: .inLoop c :: k)) cs w) b k cs y a' w' := by
  intro N
  induction N with
  | zero => intro s x a w hl; cases hl
  | succ N ih =>
   intro s x a w hl hfr hH
   unfold loopM at hl
   cases hfs : f s with
   | none => rw [hfs] at hl; cases hl
   | some st =>
    rw [hfs] at hl
    obtain ⟨y, a1, w1, hq, harr⟩ := round s x st hfs w hH a hfr b (.inLoop c :: k) cs
    cases st with
    | next s' =>
     obtain ⟨rfl, x', hf', hH'⟩ := hq
     obtain ⟨y2, a2, w2, hq2, harr2⟩ := ih s' x' a1 w1 hl hf' hH'
     exact ⟨y2, a2, w2, hq2, .of_steps (Steps.trans harr (.one step_inLoop)) harr2⟩
    | done r' =>
     simp only [Option.some.injEq] at hl
     subst hl
     obtain ⟨hy, hq⟩ := hq
     cases y with
     | normal => exact absurd rfl hy
     | exit id => exact ⟨_, a1, w1, hq, .pass (x := .inLoop c) rfl (fun _ _ => .inl (by simp)) harr⟩
     | goto l => exact ⟨_, a1, w1, hq, .pass (x := .inLoop c) rfl (fun _ _ => .inl (by simp)) harr⟩
     | ret => exact ⟨_, a1, w1, hq, .pass (x := .inLoop c) rfl (fun _ _ => .inl (by simp)) harr⟩
     | panic ch => exact ⟨_, a1, w1, hq, .pass (x := .inLoop c) rfl (fun _ _ => .inl (by simp)) harr⟩
     | outgrown => exact ⟨_, a1, w1, hq, .pass (x := .inLoop c) rfl (fun _ _ => .inl (by simp)) harr⟩
 obtain ⟨y, a', w', hq, harr⟩ := key N s0 x0 a w hr (h1 n a hf) (h2 w hw)
 exact ⟨y, a', w', hq, .of_steps (.one step_loop) harr⟩
/-- A joint: what follows is shown once. -/
theorem cm_join {x y : Code} {mx : Option (Step σ ρ)} {k : σ → Option ρ} (E : σ → ξ → Env) (HH : σ → ξ → List HE) (h : Cm P n w0 x (QL n w0 E HH Q) mx e H) (hk : ∀ t u, Cm P n w0 y Q (k t) (E t u) (HH t u)) : Cm P n w0 (.seq x y) Q (andThen mx k) e H := by
 intro r hr w hw
 refine wc_seq ?_
 cases hmx : mx with
 | none => rw [hmx] at hr; cases hr
 | some st =>
  rw [hmx] at hr
  intro a hf
  refine Code.wp_mono ?_ (h st hmx w hw a hf)
  intro z a' w' hq
  cases st with
  | next t =>
   obtain ⟨rfl, u, hf', hH'⟩ := hq
   exact hk t u r hr w' hH' a' hf'
  | done r' =>
   injection hr with hr
   subst hr
   obtain ⟨hz, hq⟩ := hq
   cases z <;> first | exact absurd rfl hz | exact hq
end
/-! ### Operations in a row -/
variable {ops : Array Oper} {o : Oper} {rest : List Oper}
theorem lm_nil (h : Xm n w0 Q .normal m e H) : Lm P n w0 ops Q [] m e H := fun r hr w hw => wl_nil (h r hr w hw)
theorem lm_val (d : Nat) {v : Value} (hc : chk ops e n o d true = true) (hv : ∀ w, Hs w0 H w → OpV P e w o v) (next : Lm P n w0 ops Q rest m ((d, v) :: e) H) : Lm P n w0 ops Q (o :: rest) m e H := fun r hr w hw => wl_val d hc (hv w hw) (next r hr w hw)
theorem lm_skip (d : Nat) (hc : chk ops e n o d false = true) (next : Lm P n w0 ops Q rest m ((d, undef) :: e) H) : Lm P n w0 ops Q (o :: rest) m e H := fun r hr w hw => wl_skip d hc (next r hr w hw)
/-- A call: its model first. -/
theorem lm_call (d : Nat) {α ξ : Type} {f : FuncId} {args : Array Value} {mf : Option α} {k : α → Option ρ} {V : α → ξ → Value} {HR : α → ξ → List HE} (hc : chk ops e n o d true = true)
  (hv : ∀ w, (execOp (eev e) o).run P w = .ok (.enter f args) w)
  (hR : ∀ r, mf = some r → ∀ w, Hs w0 H w → Calls P f args w fun x w' => ∃ u, x = .returned (V r u) ∧ Hs w (HR r u) w')
  (next : ∀ r u, Lm P n w0 ops Q rest (k r) ((d, V r u) :: e) (HR r u ++ H)) : Lm P n w0 ops Q (o :: rest) (mf.bind k) e H := fun r hr w hw => by
 cases hm : mf with
 | none => rw [hm] at hr; cases hr
 | some a =>
  rw [hm] at hr
  refine wl_call d hc (hv w) (hR a hm w hw) ?_
  rintro x w' ⟨u, rfl, hu⟩
  exact ⟨_, rfl, next a u r hr w' (hw.call hu)⟩
/-- Drawn regions without effects, and regions whose ways meet. -/
theorem cm_drawn {id : Nat} {l : List Oper} {K' : ρ → Act → World → Prop} (O : Env) (hm : P.follows .mixedOrders = true) (hB : Region.lexB .any l.toArray = true)
  (h : wq P n l.toArray (Hs w0 H) (fun a => Fr n a (O ++ e)) l e) (k : Xm n w0 (fun r => Exit.then (K' r) (Q r)) .normal m (O ++ e) H) : Cm P n w0 (.region id l.toArray true) (fun r => Exit.then (K' r) (Q r)) m e H := fun r hr _ hw =>
 wc_drawn (Hs w0 H) O hm hB hw.drew h fun w' hw' => k r hr w' hw'
theorem cm_cutE {id : Nat} {l : List Oper} {K' : ρ → Act → World → Prop} (O : Env) (h : wq P n l.toArray (Hs w0 H) (fun a => Fr n a (O ++ e)) l e) (k : Xm n w0 (fun r => Exit.then (K' r) (Q r)) .normal m (O ++ e) H) : Cm P n w0 (.region id l.toArray false) (fun r => Exit.then (K' r) (Q r)) m e H := fun r hr w hw a hf => by
 refine Code.wp_mono (Q := fun x a w => x = .normal ∧ Fr n a (O ++ e) ∧ Hs w0 H w) (fun x a w' hq => ?_) (wp_region_lit ?_)
 ·obtain ⟨rfl, hf', hw'⟩ := hq
  exact k r hr w' hw' a hf'
 ·exact wpList_of_quiet (h a hf) hw
/-- A region at the end of a block or a loop. -/
theorem cm_of_then {c : Code} (h : Cm P n w0 c (fun r => Exit.then (fun a w => Q r .normal a w) (Q r)) m e H) : Cm P n w0 c Q m e H := fun r hr w hw a hf =>
 Code.wp_mono (fun x a w q => by cases x <;> exact q) (h r hr w hw a hf)
theorem xm_of_then (h : Xm n w0 Q .normal m e H) : Xm n w0 (fun r => Exit.then (fun a w => Q r .normal a w) (Q r)) .normal m e H := h
theorem calls_cm {f : FuncId} {fn : Func} {c : Code} {args : List Value} {R : ρ → Ending → World → Prop} (hf : P.funcs[f]? = some fn) (hb : fn.body = some c) (hn : fn.ntmps = n) (hl : args.length ≤ n)
  (h : Cm P n w0 c (fun r => bodyPost P fn (R r)) m (argEnv 0 args) []) (r : ρ) (hr : m = some r) : Calls P f args.toArray w0 (R r) :=
 calls_wc hf hb hn hl (h r hr w0 (Hs.refl w0))
end
end Go.Proofs.YtbnimhmoffchdaaGreatDoor
/- Deco, memory: blocks that the call made, slices that are read, slices that the call owns; the operations on them. Over any program. -/
namespace Go.Proofs.YtbnimhmoffchdaaGreatDoor
open Go.RowKit
set_option linter.unusedSectionVars false
variable [JF]

def blkE (b : Nat) (t : TypeId) (cs : List Value) : HE := ⟨fun x => x = b, fun w => Blk w b t cs, fun w w' h hb => by unfold Blk at *; rw [h b rfl]; exact hb⟩
theorem blkE_new {w0 w : World} {H : List HE} (hs : Hs w0 H w) (t : TypeId) (cs : List Value) : Hs w0 (blkE w.heap.size t cs :: H) (w.alloc (.cells cs.toArray t)) :=
 hs.push ((Below.refl _ _).alloc (Nat.le_refl _) _) (Nat.le_refl _) (Blk.new w t cs) (fun b hb => by have e1 : b = w.heap.size := hb; subst e1; exact ⟨Nat.le_refl _, by simp⟩)
theorem Hs.blk {w0 w : World} {H : List HE} (hs : Hs w0 H w) (k : Nat) {b : Nat} {t : TypeId} {cs : List Value} (hk : H[k]? = some (blkE b t cs)) : Blk w b t cs := hs.get k hk
theorem Hs.cell {w0 w : World} {H : List HE} (hs : Hs w0 H w) (k : Nat) {b : Nat} {t : TypeId} {cs : List Value} {j : Nat} {u : Value} (hk : H[k]? = some (blkE b t cs)) (hu : cs[j]? = some u) : w.cell? ⟨b, j, none⟩ = some u := (hs.blk k hk).at_ j hu
theorem Hs.cells {w0 w : World} {H : List HE} (hs : Hs w0 H w) (k : Nat) {b : Nat} {t : TypeId} {cs ds : List Value} {o : Nat} (hk : H[k]? = some (blkE b t cs)) (hd : (cs.drop o).take ds.length = ds) : ∀ j v, ds[j]? = some v → w.cell? ⟨b, o + j, none⟩ = some v := fun j v hj => by
 refine (hs.blk k hk).at_ (o + j) ?_
 rw [← hd, List.getElem?_take] at hj
 split at hj
 ·rwa [List.getElem?_drop] at hj
 ·cases hj
/-- Blocks of old memory. -/
theorem Hs.oblk {w0 w : World} {H : List HE} (hs : Hs w0 H w) {b : Nat} {t : TypeId} {cs : List Value} (hb : Blk w0 b t cs) : Blk w b t cs := hb.below hs.old hb.lt
theorem Hs.ocell {w0 w : World} {H : List HE} (hs : Hs w0 H w) {p : Addr} {u : Value} (h : w0.cell? p = some u) : w.cell? p = some u := (hs.old.cell (World.block_lt_of_cell? _ _ h)).trans h
section
variable {P : Program} {n : Nat} {w0 : World} {ρ : Type} {Q : ρ → Exit → Act → World → Prop} {m : Option ρ} {e : Env} {H H' : List HE} {ops : Array Oper} {rest : List Oper}
variable {dst : Option Tmp} {ty : TypeId} {ps : String} {af : Array Edge} {g : Option (Nat × Bool)}
theorem lm_box (d : Nat) {t : TypeId} {x : Operand} (cs : List Value) (hc : chk ops e n ⟨dst, .box t x, ty, ps, af, g⟩ d true = true) (hx : (eev e x).cells = cs.toArray) (next : ∀ b, Lm P n w0 ops Q rest m ((d, .pointer (some ⟨b, 0, none⟩)) :: e) (blkE b t cs :: H)) : Lm P n w0 ops Q (⟨dst, .box t x, ty, ps, af, g⟩ :: rest) m e H := fun r hr w hw =>
 wl_run d hc (by rw [← hx]; exact op_box rfl) (next _ r hr _ (blkE_new hw t cs))
theorem lm_alloc (d : Nat) {t : TypeId} (z : List Value) {v : Value} (hc : chk ops e n ⟨dst, .alloc t, ty, ps, af, g⟩ d true = true) (hz : zeroOf P t = some v) (hv : v.cells = z.toArray) (next : ∀ b, Lm P n w0 ops Q rest m ((d, .pointer (some ⟨b, 0, none⟩)) :: e) (blkE b t z :: H)) : Lm P n w0 ops Q (⟨dst, .alloc t, ty, ps, af, g⟩ :: rest) m e H := fun r hr _ hw =>
 wl_run d hc (op_alloc z hz hv) (next _ r hr _ (blkE_new hw t z))
theorem lm_store1 (k : Nat) {t : TypeId} {x y : Operand} {b j : Nat} {t0 : TypeId} {cs : List Value} {v : Value} (hc : chk0 ops e ⟨dst, .store t x y, ty, ps, af, g⟩ = true) (hx : eev e x = .pointer (some ⟨b, j, none⟩)) (hy : eev e y = v) (h1 : oneSz P t = true) (hv : v.oneCell' = true)
  (hk : H[k]? = some (blkE b t0 cs)) (hj : Nat.blt j cs.length = true) (hH : H.set k (blkE b t0 (cs.set j v)) = H') (next : Lm P n w0 ops Q rest m e H') : Lm P n w0 ops Q (⟨dst, .store t x y, ty, ps, af, g⟩ :: rest) m e H := fun r hr w hw => by
 have hb := hw.blk k hk
 have hj' : j < cs.length := by simpa using hj
 refine wl_do hc (op_store hx hy h1 hv (hb.at_ j (List.getElem?_eq_getElem hj')) (hb.free j)) (next r hr _ ?_)
 subst hH
 refine hw.set_ k hk ((Below.refl 0 w).setCell (p := ⟨b, j, none⟩) (Nat.zero_le _) v) (Nat.le_refl _) (fun c _ hc' => Below.heap_setCell w _ v c hc') (hb.set_ j v) (fun c hc' => ?_)
 have e1 : c = b := hc'
 subst e1
 exact ⟨.inl rfl, by simpa [World.setCell] using hb.lt⟩
theorem lm_storeA (k : Nat) {t : TypeId} {x y : Operand} {b j : Nat} {t0 : TypeId} {cs : List Value} (vs cs' : List Value) (hc : chk0 ops e ⟨dst, .store t x y, ty, ps, af, g⟩ = true) (hx : eev e x = .pointer (some ⟨b, j, none⟩)) (hy : (eev e y).cells = vs.toArray) (hs : sizeIs P t vs.length = true) (hv : vs.all Value.oneCell' = true)
  (hk : H[k]? = some (blkE b t0 cs)) (hj : Nat.ble (j + vs.length) cs.length = true) (hcs : cs.take j ++ vs ++ cs.drop (j + vs.length) = cs') (hH : H.set k (blkE b t0 cs') = H') (next : Lm P n w0 ops Q rest m e H') : Lm P n w0 ops Q (⟨dst, .store t x y, ty, ps, af, g⟩ :: rest) m e H := fun r hr w hw => by
 have hb := hw.blk k hk
 have hj' : j + vs.length ≤ cs.length := Nat.le_of_ble_eq_true hj
 have hl : cs.length = cs'.length := by subst hcs; simp; omega
 unfold sizeIs at hs
 cases hi : P.info? t with
 | none => rw [hi] at hs; cases hs
 | some i =>
  have hsz : i.size = vs.length := by rw [hi] at hs; exact Nat.eq_of_beq_eq_true hs
  have hst := run_storeCells_at (P := P) b j t0 vs 0 cs.toArray w hb (by simp; omega) (fun u hu => List.all_eq_true.1 hv u hu)
  have e1 : (cs.toArray.toList.take (j + 0) ++ vs ++ cs.toArray.toList.drop (j + 0 + vs.length)).toArray = cs'.toArray := by rw [← hcs]; simp
  rw [e1] at hst
  have hrun : (execOp (eev e) ⟨dst, .store t x y, ty, ps, af, g⟩).run P w = .ok .skip (w.setRow b cs'.toArray) := by
   simp only [execOp, Instr.storeAt, hx]
   simp [Instr.sureAddr, storeVar, sizeOf, typeInfo, hi, hsz, hy, hst]
  refine wl_do hc hrun (next r hr _ ?_)
  subst hH
  have hbl := below_setRow (Below.refl 0 w) (Nat.zero_le b) cs'.toArray
  refine hw.set_ k hk hbl (Nat.le_refl _) (fun c _ hc' => ?_) (blk_setRow hb _ hl) (fun c hc' => ?_)
  ·have hne : b ≠ c := fun h => hc' h.symm
   simp [World.setRow, Array.getElem?_modify, hne]
  ·have e1 : c = b := hc'
   subst e1
   exact ⟨.inl rfl, by simpa [World.setRow] using hb.lt⟩
end

/-! ### Slices -/
def ab (A : Option Addr) : Nat := match A with | some a => a.block | none => 0
def ao (A : Option Addr) : Nat := match A with | some a => a.off | none => 0
/-- The slice at A reads as l. -/
def RdE {α : Type} (w : World) (sz : Nat) (enc : α → List Value) (A : Option Addr) (l : List α) : Prop := Rd w w.heap.size sz (fun x cs => cs = enc x) A l
section
variable {α : Type} {w w0 : World} {sz : Nat} {enc : α → List Value} {A : Option Addr} {l : List α} {H : List HE}
theorem RdE.addr (h : RdE w sz enc A l) {i : Int} (h0 : 0 ≤ i) (h1 : i < l.length) : A = some ⟨ab A, ao A, none⟩ := by
 obtain ⟨b, off, rfl, _⟩ := h.2 (by omega)
 rfl
theorem RdE.old (h : RdE w0 sz enc A l) (hs : Hs w0 H w) : RdE w sz enc A l := (Rd.below h hs.old).more hs.old.size
theorem RdE.row [Inhabited α] (h : RdE w sz enc A l) {i : Int} (h0 : 0 ≤ i) (h1 : i < l.length) : ∀ j u, (enc (ix l i))[j]? = some u → w.cell? ⟨ab A, ao A + i.toNat * sz + j, none⟩ = some u := by
 obtain ⟨b, off, rfl, _, cs, _, rfl, hc⟩ := Rd.at_ h (ix_get h0 h1)
 exact hc
theorem RdE.cell [Inhabited α] (h : RdE w sz enc A l) {i : Int} (h0 : 0 ≤ i) (h1 : i < l.length) {j : Nat} {u : Value} (hu : (enc (ix l i))[j]? = some u) : w.cell? ⟨ab A, ao A + i.toNat * sz + j, none⟩ = some u := h.row h0 h1 j u hu
theorem RdE.cell0 [Inhabited α] (h : RdE w sz enc A l) {i : Int} (h0 : 0 ≤ i) (h1 : i < l.length) {u : Value} (hu : (enc (ix l i))[0]? = some u) : w.cell? ⟨ab A, ao A + i.toNat * sz, none⟩ = some u := h.row h0 h1 0 u hu
/-- Part of an element: cells from o on. -/
theorem RdE.part [Inhabited α] (h : RdE w sz enc A l) {i : Int} (h0 : 0 ≤ i) (h1 : i < l.length) {o : Nat} {ds : List Value} (hd : ((enc (ix l i)).drop o).take ds.length = ds) : ∀ j v, ds[j]? = some v → w.cell? ⟨ab A, ao A + i.toNat * sz + o + j, none⟩ = some v := fun j v hj => by
 have := h.row h0 h1 (o + j) v (by
  rw [← hd, List.getElem?_take] at hj
  split at hj
  ·rwa [List.getElem?_drop] at hj
  ·cases hj)
 rwa [Nat.add_assoc]
end
section
variable {P : Program} {e : Env} {w : World} {d : Option Tmp} {ty : TypeId} {ps : String} {af : Array Edge} {g : Option (Nat × Bool)}
theorem op_indexA {t : TypeId} {x ix : Operand} {A : Option Addr} {l c : Nat} (sz : Nat) {i : Int} (hx : eev e x = .slice A l c) (hi : eev e ix = .int .i64 i) (hs : elemSz P t = some sz) (hA : A = some ⟨ab A, ao A, none⟩) {ll : Nat} (hn : l = ll) (h0 : 0 ≤ i) (hl : i < ll) : OpV P e w ⟨d, .indexAddr t x ix, ty, ps, af, g⟩ (.pointer (some ⟨ab A, ao A + i.toNat * sz, none⟩)) := by
 subst hn
 rw [hA] at hx
 exact op_indexI hx hi hs h0 hl
end
/-- A row that the call owns: it reads as l, and nothing else lies in its block. -/
def ownE {α : Type} (el sz : Nat) (enc : α → List Value) (A : Option Addr) (n c : Nat) (l : List α) : HE :=
 ⟨fun b => (Value.slice A n c).ownBlock = some b, fun w => n = l.length ∧ w.ownsRow 0 el sz (.slice A n c) n (l.flatMap enc), fun w w' h hw => by
  refine ⟨hw.1, hw.2.1, ?_⟩
  rcases hw.2.2 with hn | ⟨gg, cap, cur, hv, hb, hh, hr⟩
  ·exact .inl hn
  ·refine .inr ⟨gg, cap, cur, hv, hb, ?_, hr⟩
   rw [h gg (by rw [hv]; rfl)]
   exact hh⟩
/-- What a slice's word says of itself. -/
def SW (A : Option Addr) (n c ll : Nat) : Prop := (A = none → c = 0) ∧ n ≤ c ∧ n = ll
theorem SW.nil : SW none 0 0 0 := ⟨fun _ => rfl, Nat.le_refl _, rfl⟩
theorem RdE.nil {α : Type} {w : World} {sz : Nat} {enc : α → List Value} {A : Option Addr} : RdE w sz enc A ([] : List α) := Rd.nil
/-- A fact on old memory, carried along. -/
def roE (φ : Prop) : HE := ⟨fun _ => False, fun _ => φ, fun _ _ _ h => h⟩
theorem Hs.own {α : Type} {w0 w : World} {H : List HE} (hs : Hs w0 H w) (k : Nat) {el sz : Nat} {enc : α → List Value} {A : Option Addr} {n c : Nat} {l : List α} (hk : H[k]? = some (ownE el sz enc A n c l)) (hz : ∀ x, (enc x).length = sz) : RdE w sz enc A l := by
 obtain ⟨h1, h2⟩ := hs.get k hk
 subst h1
 exact (Rd.of_own hz h2).2
theorem Hs.ownZ {α : Type} {w0 w : World} {H : List HE} (hs : Hs w0 H w) (k : Nat) {el sz : Nat} {enc : α → List Value} {A : Option Addr} {n c : Nat} {l : List α} (hk : H[k]? = some (ownE el sz enc A n c l)) : SW A n c l.length := by
 obtain ⟨h1, h2⟩ := hs.get k hk
 rcases h2.2 with ⟨hv, h0⟩ | ⟨gg, cap, cur, hv, _, _, hnc, _⟩
 ·injection hv with a1 a2 a3
  exact ⟨fun _ => a3, by omega, h1⟩
 ·injection hv with a1 a2 a3
  subst a3
  exact ⟨(fun hA => by rw [hA] at a1; cases a1), hnc, h1⟩
theorem Hs.ownNil {α : Type} {w0 w : World} {H : List HE} (hs : Hs w0 H w) (el sz : Nat) (enc : α → List Value) : Hs w0 (ownE el sz enc none 0 0 ([] : List α) :: H) w :=
 ⟨hs.old, hs.dr, ⟨rfl, by simp, .inl ⟨rfl, rfl⟩⟩, fun b hb => by simp [ownE, Value.ownBlock] at hb, fun k _ b hb => by simp [ownE, Value.ownBlock] at hb, hs.sep⟩
theorem own_shape {w : World} {el sz : Nat} {v : Value} {n : Nat} {xs : List Value} (h : w.ownsRow 0 el sz v n xs) : ∃ A c, v = .slice A n c := by
 rcases h.2 with ⟨rfl, h0⟩ | ⟨g, cap, cur, rfl, _⟩
 ·exact ⟨none, 0, by rw [h0]⟩
 ·exact ⟨_, cap, rfl⟩
section
variable {P : Program} {n : Nat} {w0 : World} {ρ : Type} {Q : ρ → Exit → Act → World → Prop} {m : Option ρ} {e : Env} {H H' : List HE} {ops : Array Oper} {rest : List Oper}
variable {dst : Option Tmp} {ty : TypeId} {ps : String} {af : Array Edge} {g : Option (Nat × Bool)} {α : Type}
theorem lm_nilrow (el sz : Nat) (enc : α → List Value) {l : List Oper} (h : Lm P n w0 ops Q l m e (ownE el sz enc none 0 0 ([] : List α) :: H)) : Lm P n w0 ops Q l m e H := fun r hr w hw => h r hr w (hw.ownNil el sz enc)
theorem cm_nilrow (el sz : Nat) (enc : α → List Value) {c : Code} (h : Cm P n w0 c Q m e (ownE el sz enc none 0 0 ([] : List α) :: H)) : Cm P n w0 c Q m e H := fun r hr w hw => h r hr w (hw.ownNil el sz enc)
theorem xm_nilrow (el sz : Nat) (enc : α → List Value) {x : Exit} (h : Xm n w0 Q x m e (ownE el sz enc none 0 0 ([] : List α) :: H)) : Xm n w0 Q x m e H := fun r hr w hw => h r hr w (hw.ownNil el sz enc)
theorem enc_one {enc : α → List Value} (h1 : ∀ x, (enc x).all Value.oneCell' = true) (l : List α) : ∀ u ∈ l.flatMap enc, u.oneCell' = true := fun u hu => by
 obtain ⟨x, _, hx⟩ := List.mem_flatMap.1 hu
 exact List.all_eq_true.1 (h1 x) u hx
/-- Cells of a slice that is read, behind its address. -/
theorem RdE.flat {w : World} {sz : Nat} {enc : α → List Value} {ad : Addr} {l : List α} (h : RdE w sz enc (some ad) l) (hz : ∀ x, (enc x).length = sz) : ∀ j u, (l.flatMap enc)[j]? = some u → w.cell? (ad.add j) = some u := fun j u hu => by
 have hj : j < (l.flatMap enc).length := (List.getElem?_eq_some_iff.1 hu).1
 rw [flat_len hz] at hj
 have hsz : 0 < sz := by
  rcases Nat.eq_zero_or_pos sz with h0 | h0
  ·subst h0; simp at hj
  ·exact h0
 have hi : j / sz < l.length := Nat.div_lt_of_lt_mul (by rw [Nat.mul_comm]; exact hj)
 obtain ⟨b, off, e1, _, cs, _, rfl, hc⟩ := Rd.at_ h (List.getElem?_eq_getElem hi)
 injection e1 with e1
 subst e1
 have hm : j % sz < sz := Nat.mod_lt _ hsz
 have hjj : j / sz * sz + j % sz = j := by rw [Nat.mul_comm]; exact Nat.div_add_mod j sz
 have hf := flat_at hz l (j / sz) _ (List.getElem?_eq_getElem hi) (j % sz) hm
 rw [hjj, hu] at hf
 have hq := hc (j % sz) u hf.symm
 have hadd : (⟨b, off, none⟩ : Addr).add j = ⟨b, off + j, none⟩ := by unfold Addr.add; split <;> simp_all
 rw [hadd]
 rw [Nat.add_assoc, hjj] at hq
 exact hq
/-- append to a row that is owned: where it lies behind it; the count of draws does not fall. -/
theorem run_append_dr (w : World) (t ty el : TypeId) (i : TypeInfo) (z : Value) (size bytes : Nat) (ht : P.underlying t = some (.slice el)) (hi : P.info? el = some i) (hz : i.zero = some z) (hsize : i.size = size) (hby : i.bytes = bytes) (hzs : z.cells.size = size) (hsz : 0 < size)
  (v : Value) (k : Nat) (xs : List Value) (hown : w.ownsRow 0 el size v k xs) (a : Addr) (mm c : Nat) (news : List Value) (hl : news.length = mm * size) (hnews : ∀ j u, news[j]? = some u → w.cell? (a.add j) = some u) (h1 : ∀ u ∈ news, u.oneCell' = true)
  (h63 : k + mm ≤ maxLen) (hbytes : (k + mm) * bytes ≤ 140737488355328) :
  ∃ v' w', (Builtin.append_ #[t, t] ty #[v, .slice (some a) mm c]).run P w = .ok v' w' ∧ w'.ownsRow 0 el size v' (k + mm) (xs ++ news) ∧ w.grownBy w' v.ownBlock ∧ (v'.ownBlock = v.ownBlock ∨ v'.ownBlock = some w.heap.size) ∧ w.drawn ≤ w'.drawn := by
 obtain ⟨v', w', hr, ho, hg, _, hat⟩ := run_append_own_at (P := P) w 0 t ty el i z size bytes ht hi hz hsize hby hzs hsz v k xs hown a mm c news hl hnews h1 h63 hbytes (Nat.zero_le _)
 refine ⟨v', w', hr, ho, hg, hat, ?_⟩
 subst hsize
 subst hby
 have hsmall : k + mm ≤ 9223372036854775807 := by simp only [maxLen] at h63; omega
 have same : ∀ {v2 : Value} {w2 : World}, (Builtin.append_ #[t, t] ty #[v, .slice (some a) mm c]).run P w = .ok v2 w2 → w.drawn ≤ w2.drawn → w.drawn ≤ w'.drawn := fun h2 h3 => by
  rw [hr] at h2
  injection h2 with _ h2
  rw [h2]; exact h3
 rcases hown.2 with ⟨rfl, rfl⟩ | ⟨gg, cap, cur, rfl, hbg, hg2, hnc, hcm, hcs, htake⟩
 ·by_cases hm : mm = 0
  ·subst hm
   refine same (v2 := .slice none 0 0) (w2 := w) ?_ (Nat.le_refl _)
   simp [Builtin.append_, run_underlying ht, sizeOf, typeInfo, hi, Builtin.lenOf, Builtin.firstCells, loadCells, loadCellsFrom]
  ·have hr2 := run_append_nil (P := P) w t ty el i z ht hi hz a mm c news hl hnews (by omega) (by omega) (by have hb := hbytes; simp only [Nat.zero_add] at hb; omega)
   exact same hr2 (by simp)
 ·by_cases hroom : k + mm ≤ cap
  ·have hfit : k * i.size + news.length ≤ cur.size := by rw [hl, hcs, ← Nat.add_mul]; exact Nat.mul_le_mul_right _ hroom
   have hr2 := run_append_room (P := P) w t ty el i ht hi gg k cap cur hg2 a mm c news hl hnews h1 hroom hfit
   exact same hr2 (by simp)
  ·have holds : ∀ j u, xs[j]? = some u → w.cell? ((⟨gg, 0, none⟩ : Addr).add j) = some u := hown.cells (g := gg) rfl
   have hr2 := run_append_grow (P := P) w t ty el i z ht hi hz ⟨gg, 0, none⟩ k cap xs hown.1 holds a mm c news hl hnews (by omega) (by omega) (growslice_fits (by omega) hbytes)
   exact same hr2 (by simp)
/-- append(s, x...): s is owned, x is read. -/
theorem run_appendE {w : World} (k : Nat) {s x : Operand} {t el sz bytes : Nat} {enc : α → List Value} {A A2 : Option Addr} {n1 c n2 c2 : Nat} {l l2 : List α} (hT : rowOk P t el sz bytes = true) (hz : ∀ x, (enc x).length = sz) (h1 : ∀ x, (enc x).all Value.oneCell' = true)
  (hk : H[k]? = some (ownE el sz enc A n1 c l)) (hs : eev e s = .slice A n1 c) (hx : eev e x = .slice A2 n2 c2) (hA2 : SW A2 n2 c2 l2.length) (rd : RdE w sz enc A2 l2) (hlen : (l.length + l2.length) * bytes ≤ 140737488355328) (hl63 : l.length + l2.length ≤ 9223372036854775807) (hw : Hs w0 H w) :
  ∃ A' n' c' w', (execOp (eev e) ⟨dst, .call ⟨.builtin .append, #[s, x], #[t, t]⟩, ty, ps, af, g⟩).run P w = .ok (.value (.slice A' n' c')) w' ∧ Hs w0 (H.set k (ownE el sz enc A' n' c' (l ++ l2))) w' := by
 obtain ⟨hn1, hown⟩ := hw.get k hk
 subst hn1
 obtain ⟨hAn, _, hn2⟩ := hA2
 subst hn2
 obtain ⟨hu, i, z, hi, hzz, q1, q2, q3, q4⟩ := rowOk_spec hT
 cases A2 with
 | none =>
  have h2 : l2 = [] := by
   cases l2 with
   | nil => rfl
   | cons y ys => obtain ⟨b, off, e1, _⟩ := rd.2 (by simp); cases e1
  subst h2
  obtain rfl := hAn rfl
  have hr := run_append_owned_none (P := P) w 0 t ty el i sz hu hi _ _ _ hown
  rw [List.append_nil]
  refine ⟨A, l.length, c, w, ?_, ?_⟩
  ·simp only [execOp, resolve, invoke, builtin, Sem.run_bind, Sem.run_pure, Result.andThen_ok, List.map_toArray, List.map_cons, List.map_nil, hs, hx, List.length_nil, hr]
  ·have : H.set k (ownE el sz enc A l.length c l) = H := by
    refine List.ext_getElem? fun j => ?_
    rw [List.getElem?_set]
    split
    ·rename_i hjk; subst hjk
     split
     ·exact hk.symm
     ·rename_i hlt; rw [List.getElem?_eq_none (by omega)] at hk; cases hk
    ·rfl
   rw [this]; exact hw
 | some ad =>
  obtain ⟨v', w', hr, ho, hg, hat, hdr⟩ := run_append_dr (P := P) w t ty el i z sz bytes hu hi hzz q1 q2 q3 q4 (.slice A l.length c) l.length (l.flatMap enc) hown ad l2.length c2 (l2.flatMap enc) (flat_len hz l2) (rd.flat hz) (enc_one h1 l2) (by unfold maxLen; exact hl63) hlen
  have ho' : w'.ownsRow 0 el sz v' (l ++ l2).length ((l ++ l2).flatMap enc) := by
   rw [List.length_append, List.flatMap_append]; exact ho
  obtain ⟨A', c', rfl⟩ := own_shape ho'
  refine ⟨A', (l ++ l2).length, c', w', ?_, ?_⟩
  ·simp only [execOp, resolve, invoke, builtin, Sem.run_bind, Sem.run_pure, Result.andThen_ok, List.map_toArray, List.map_cons, List.map_nil, hs, hx, hr]
  ·refine hw.set_ k hk ⟨hg.os, hg.tape, hg.output, hg.size, fun b hb => absurd hb (Nat.not_lt_zero _)⟩ hdr (fun b hb hne => hg.block b hb fun h => hne h.symm) ⟨rfl, ho'⟩ (fun b hb => ⟨?_, (ho'.lt b hb).2⟩)
   have hb' : (Value.slice A' (l ++ l2).length c').ownBlock = some b := hb
   rcases hat with hat | hat
   ·exact .inl (by rw [hb'] at hat; exact hat.symm)
   ·rw [hb'] at hat
    injection hat with hat
    exact .inr (by omega)
theorem lm_append (d k : Nat) {s x : Operand} {t el sz bytes : Nat} {enc : α → List Value} {A A2 : Option Addr} {n1 c n2 c2 : Nat} {l l2 : List α}
  (hc : chk ops e n ⟨dst, .call ⟨.builtin .append, #[s, x], #[t, t]⟩, ty, ps, af, g⟩ d true = true) (hT : rowOk P t el sz bytes = true) (hz : ∀ x, (enc x).length = sz) (h1 : ∀ x, (enc x).all Value.oneCell' = true) (hk : H[k]? = some (ownE el sz enc A n1 c l)) (hs : eev e s = .slice A n1 c)
  (hx : eev e x = .slice A2 n2 c2) (hA2 : ∀ w, Hs w0 H w → SW A2 n2 c2 l2.length) (rd : ∀ w, Hs w0 H w → RdE w sz enc A2 l2) (hlen : (l.length + l2.length) * bytes ≤ 140737488355328)
  (next : ∀ A' n' c', Lm P n w0 ops Q rest m ((d, .slice A' n' c') :: e) (H.set k (ownE el sz enc A' n' c' (l ++ l2)))) (hby : Nat.blt 0 bytes = true) :
  Lm P n w0 ops Q (⟨dst, .call ⟨.builtin .append, #[s, x], #[t, t]⟩, ty, ps, af, g⟩ :: rest) m e H := fun r hr w hw => by
 have hb : 0 < bytes := by simpa using hby
 have h63 : l.length + l2.length ≤ 9223372036854775807 := Nat.le_trans (Nat.le_mul_of_pos_right _ hb) (Nat.le_trans hlen (by decide))
 obtain ⟨A', n', c', w', hrun, hw'⟩ := run_appendE (dst := dst) (ty := ty) (ps := ps) (af := af) (g := g) k hT hz h1 hk hs hx (hA2 w hw) (rd w hw) hlen h63 hw
 exact wl_run d hc hrun (next A' n' c' r hr w' hw')
/-- Rows that are made: '[]T{..}' of one element, of none. -/
theorem lm_slice1 (d : Nat) {t el sz bytes : Nat} {x : Operand} {enc : α → List Value} (v : α) (hc : chk ops e n ⟨dst, .buildSlice t 1 #[(0, x)], ty, ps, af, g⟩ d true = true) (hT : rowOk P t el sz bytes = true) (hz : ∀ x, (enc x).length = sz) (hx : (eev e x).cells = (enc v).toArray) (hs : Nat.ble sz 1000 = true)
  (next : ∀ A n' c, A ≠ none → Lm P n w0 ops Q rest m ((d, .slice A n' c) :: e) (ownE el sz enc A n' c [v] :: H)) : Lm P n w0 ops Q (⟨dst, .buildSlice t 1 #[(0, x)], ty, ps, af, g⟩ :: rest) m e H := fun r hr w hw => by
 refine wl_run d hc (op_slice1 (enc v) hT hx (hz v) hs) (next (some ⟨w.heap.size, 0, none⟩) 1 1 (by simp) r hr _ ?_)
 refine hw.push ((Below.refl _ _).alloc (Nat.le_refl _) _) (Nat.le_refl _) ?_ (fun b hb => ?_)
 ·exact ⟨rfl, by simp [hz], .inr ⟨w.heap.size, 1, (enc v).toArray, rfl, Nat.zero_le _, heap_alloc_new w _, Nat.le_refl _, by decide, by simp [hz], by have := hz v; simp; rw [← this]; exact List.take_length⟩⟩
 ·have e1 : b = w.heap.size := by simpa [ownE, Value.ownBlock] using hb.symm
  subst e1; exact ⟨Nat.le_refl _, by simp⟩
theorem lm_slice0 (d : Nat) {t el sz bytes : Nat} {enc : α → List Value} (hc : chk ops e n ⟨dst, .buildSlice t 0 #[], ty, ps, af, g⟩ d true = true) (hT : rowOk P t el sz bytes = true)
  (next : ∀ A n' c, A ≠ none → Lm P n w0 ops Q rest m ((d, .slice A n' c) :: e) (ownE el sz enc A n' c ([] : List α) :: H)) : Lm P n w0 ops Q (⟨dst, .buildSlice t 0 #[], ty, ps, af, g⟩ :: rest) m e H := fun r hr w hw => by
 refine wl_run d hc (op_slice0 hT) (next (some ⟨w.heap.size, 0, none⟩) 0 0 (by simp) r hr _ ?_)
 refine hw.push ((Below.refl _ _).alloc (Nat.le_refl _) _) (Nat.le_refl _) ?_ (fun b hb => ?_)
 ·exact ⟨rfl, by simp, .inr ⟨w.heap.size, 0, #[], rfl, Nat.zero_le _, heap_alloc_new w _, Nat.le_refl _, by decide, by simp, by simp⟩⟩
 ·have e1 : b = w.heap.size := by simpa [ownE, Value.ownBlock] using hb.symm
  subst e1; exact ⟨Nat.le_refl _, by simp⟩
theorem made_flat {z : α} {enc : α → List Value} {sz : Nat} (hz : (enc z).length = sz) (hp : 0 < sz) (n : Nat) : (madeCells (enc z).toArray (n * sz)).toList = (List.replicate n z).flatMap enc := by
 refine List.ext_getElem? fun j => ?_
 have hk : ∀ x ∈ List.replicate n z, (enc x).length = sz := fun x hx => by rw [(List.mem_replicate.1 hx).2]; exact hz
 by_cases hj : j < n * sz
 ·have hi : j / sz < n := Nat.div_lt_of_lt_mul (by rw [Nat.mul_comm]; exact hj)
  have hm : j % sz < sz := Nat.mod_lt _ hp
  have hjj : j / sz * sz + j % sz = j := by rw [Nat.mul_comm]; exact Nat.div_add_mod j sz
  have h2 : ∀ n i j, i < n → j < sz → ((List.replicate n z).flatMap enc)[i * sz + j]? = (enc z)[j]? := by
   intro n
   induction n with
   | zero => intro i j hi; omega
   | succ n ih =>
    intro i j hi hj
    rw [List.replicate_succ, List.flatMap_cons]
    cases i with
    | zero => rw [Nat.zero_mul, Nat.zero_add, List.getElem?_append_left (by omega)]
    | succ i =>
     rw [List.getElem?_append_right (by rw [hz, Nat.succ_mul]; omega), hz, ← ih i j (by omega) hj]
     congr 1
     rw [Nat.succ_mul]; omega
  have h3 := h2 n (j / sz) (j % sz) hi hm
  rw [hjj] at h3
  rw [h3]
  simp only [madeCells]
  have hlt : j % sz < (enc z).length := by omega
  simp [hj, hz, List.getElem?_eq_getElem hlt]
 ·have h4 : ((List.replicate n z).flatMap enc).length = n * sz := by
   clear hj
   induction n with
   | zero => simp
   | succ n ih => rw [List.replicate_succ, List.flatMap_cons, List.length_append, ih (fun x hx => by rw [(List.mem_replicate.1 hx).2]; exact hz), hz, Nat.succ_mul]; omega
  rw [List.getElem?_eq_none (by simp [madeCells]; omega), List.getElem?_eq_none (by rw [h4]; omega)]
/-- make([]T, n). -/
theorem lm_make (d : Nat) {t el sz bytes : Nat} {x y : Operand} {enc : α → List Value} (z : α) {zv : Value} {i : Int} (hc : chk ops e n ⟨dst, .makeSlice t x y, ty, ps, af, g⟩ d true = true) (hT : rowOk P t el sz bytes = true) (hzv : zeroOf P el = some zv) (hzc : zv.cells = (enc z).toArray) (hz : ∀ x, (enc x).length = sz)
  (hx : eev e x = .int .i64 i) (hy : eev e y = .int .i64 i) (h0 : 0 ≤ i) (hb : i.toNat * bytes ≤ 140737488355328) (hbp : Nat.blt 0 bytes = true)
  (next : ∀ A n' c, A ≠ none → Lm P n w0 ops Q rest m ((d, .slice A n' c) :: e) (ownE el sz enc A n' c (List.replicate i.toNat z) :: H)) : Lm P n w0 ops Q (⟨dst, .makeSlice t x y, ty, ps, af, g⟩ :: rest) m e H := fun r hr w hw => by
 obtain ⟨hu, inf, z', hi, hzz, q1, q2, q3, q4⟩ := rowOk_spec hT
 have hbp' : 0 < bytes := by simpa using hbp
 have hzv' : z' = zv := by
  unfold zeroOf at hzv
  rw [hi] at hzv
  simp [hzz] at hzv
  exact hzv
 subst hzv'
 have h63 : i.toNat ≤ maxLen := by
  have : i.toNat ≤ i.toNat * bytes := Nat.le_mul_of_pos_right _ hbp'
  unfold maxLen; omega
 obtain ⟨w', hrun, ho, hg⟩ := run_make_full (P := P) w 0 t el inf z' sz hu hi hzz q1 .i64 .i64 i.toNat (by rw [q2, Nat.mul_comm]; omega) h63 (Nat.zero_le _)
 have hdr : w.drawn ≤ w'.drawn := by
  have hb' : (inf.bytes : Int) * ((i.toNat : Nat) : Int) ≤ 281474976710656 := by
   have h : ((inf.bytes * i.toNat : Nat) : Int) ≤ 281474976710656 := by rw [q2, Nat.mul_comm]; omega
   rwa [Int.natCast_mul] at h
  have hr2 := run_make (P := P) w t el inf z' hu hi hzz .i64 .i64 i.toNat i.toNat (by omega) (Int.le_refl _) hb' (by unfold maxLen at h63; omega)
  simp only [Int.toNat_natCast] at hr2
  rw [hrun] at hr2
  injection hr2 with _ hr2
  rw [hr2]; simp
 have hii : ((i.toNat : Nat) : Int) = i := Int.toNat_of_nonneg h0
 rw [hii] at hrun
 have hlr : (List.replicate i.toNat z).length = i.toNat := List.length_replicate
 have hrun2 : (execOp (eev e) ⟨dst, .makeSlice t x y, ty, ps, af, g⟩).run P w = .ok (.value (.slice (some ⟨w.heap.size, 0, none⟩) i.toNat i.toNat)) w' := by
  simp [execOp, hx, hy, hrun]
 refine wl_run d hc hrun2 (next (some ⟨w.heap.size, 0, none⟩) i.toNat i.toNat (by simp) r hr _ ?_)
 have ho2 : w'.ownsRow 0 el sz (.slice (some ⟨w.heap.size, 0, none⟩) i.toNat i.toNat) i.toNat ((List.replicate i.toNat z).flatMap enc) := by
  rw [← made_flat (hz z) q4, ← hzc]; exact ho
 refine hw.push ⟨hg.os, hg.tape, hg.output, hg.size, fun b hb => hg.block b hb (by simp)⟩ hdr ⟨hlr.symm, ho2⟩ (fun b hb => ?_)
 have e1 : b = w.heap.size := by simpa [ownE, Value.ownBlock] using hb.symm
 subst e1
 exact ⟨Nat.le_refl _, (ho2.lt _ rfl).2⟩
end
end Go.Proofs.YtbnimhmoffchdaaGreatDoor
/- Deco, more operations: returns, ways of a region in the model, lengths, slices of slices, stores into rows, literals of rows, conversions. Over any program. -/
namespace Go.Proofs.YtbnimhmoffchdaaGreatDoor
open Go.RowKit
set_option linter.unusedSectionVars false
variable [JF]

instance (n : Int) : Decidable (I64 n) := by unfold I64; infer_instance
def encI (x : Int) : List Value := [.int .i64 x]
theorem encI_len (x : Int) : (encI x).length = 1 := rfl
theorem encI_one (x : Int) : (encI x).all Value.oneCell' = true := rfl
def encK (k : IntKind) (x : Int) : List Value := [.int k x]
def encB (x : Bool) : List Value := [.bool x]
def encS (x : ByteArray) : List Value := [.string x]
theorem Hs.ocells {w0 w : World} {H : List HE} (hs : Hs w0 H w) {b : Nat} {t : TypeId} {cs ds : List Value} {o : Nat} (hb : Blk w0 b t cs) (hd : (cs.drop o).take ds.length = ds) : ∀ j v, ds[j]? = some v → w.cell? ⟨b, o + j, none⟩ = some v := fun j v hj => by
 refine (hs.oblk hb).at_ (o + j) ?_
 rw [← hd, List.getElem?_take] at hj
 split at hj
 ·rwa [List.getElem?_drop] at hj
 ·cases hj
section
variable {P : Program} {n : Nat} {w0 : World} {ρ : Type} {R : ρ → Ending → World → Prop} {r : ρ} {e : Env} {H : List HE} {fn : Func}
theorem xm_ret (hr : fn.results = #[]) (h : ∀ w, Hs w0 H w → R r (.returned (.tuple #[])) w) : Xm n w0 (fun r => bodyPost P fn (R r)) .ret (some r) e H := fun r' hr' w hw => by
 injection hr' with hr'; subst hr'
 exact wx_ret0 hr (h w hw)
theorem xm_retT {t : Nat} {v : Value} (hr : fn.results = #[.tmp t]) (hk : ehas e t = true) (hv : eget e t = v) (h : ∀ w, Hs w0 H w → R r (.returned v) w) : Xm n w0 (fun r => bodyPost P fn (R r)) .ret (some r) e H := fun r' hr' w hw => by
 injection hr' with hr'; subst hr'
 exact wx_ret1 hr hk hv (h w hw)
theorem xm_retTT {t u : Nat} {v v' : Value} (hr : fn.results = #[.tmp t, .tmp u]) (hk : ehas e t = true) (hv : eget e t = v) (hk' : ehas e u = true) (hv' : eget e u = v') (h : ∀ w, Hs w0 H w → R r (.returned (.tuple #[v, v'])) w) : Xm n w0 (fun r => bodyPost P fn (R r)) .ret (some r) e H := fun r' hr' w hw => by
 injection hr' with hr'; subst hr'
 exact wx_ret2 hr hk hv hk' hv' (h w hw)
theorem xm_retC {a t b : Nat} {cs : List Value} (hr : fn.results = #[.cell a t]) (hk : ehas e a = true) (hv : eget e a = .pointer (some ⟨b, 0, none⟩)) (hs : aggSz P t = some cs.length) (hc : ∀ w, Hs w0 H w → ∀ j v, cs[j]? = some v → w.cell? ⟨b, 0 + j, none⟩ = some v)
  (h : ∀ w, Hs w0 H w → R r (.returned (.agg cs.toArray)) w) : Xm n w0 (fun r => bodyPost P fn (R r)) .ret (some r) e H := fun r' hr' w hw => by
 injection hr' with hr'; subst hr'
 exact wx_retC1 cs hr hk hv hs (hc w hw) (h w hw)
theorem xm_retCT {a t u b : Nat} {v : Value} {cs : List Value} (hr : fn.results = #[.cell a t, .tmp u]) (hk : ehas e a = true) (hv : eget e a = .pointer (some ⟨b, 0, none⟩)) (hs : aggSz P t = some cs.length) (hc : ∀ w, Hs w0 H w → ∀ j v, cs[j]? = some v → w.cell? ⟨b, 0 + j, none⟩ = some v)
  (hk' : ehas e u = true) (hv' : eget e u = v) (h : ∀ w, Hs w0 H w → R r (.returned (.tuple #[.agg cs.toArray, v])) w) : Xm n w0 (fun r => bodyPost P fn (R r)) .ret (some r) e H := fun r' hr' w hw => by
 injection hr' with hr'; subst hr'
 exact wx_retCT cs hr hk hv hk' hv' hs (hc w hw) (h w hw)
end
section
variable {P : Program} {n : Nat} {w0 : World} {ρ : Type} {Q : ρ → Exit → Act → World → Prop} {m m1 m2 : Option ρ} {e : Env} {H H' : List HE} {ops : Array Oper} {o : Oper} {rest : List Oper} {α : Type}
variable {dst : Option Tmp} {ty : TypeId} {ps : String} {af : Array Edge} {g : Option (Nat × Bool)}
theorem flat_set {sz : Nat} {enc : α → List Value} (hz : ∀ x, (enc x).length = sz) (x' : α) (vs : List Value) (j : Nat) : ∀ (l : List α) (i : Nat) (x : α), l[i]? = some x → (enc x).take j ++ vs ++ (enc x).drop (j + vs.length) = enc x' → j + vs.length ≤ sz → (l.flatMap enc).take (i * sz + j) ++ vs ++ (l.flatMap enc).drop (i * sz + j + vs.length) = (l.set i x').flatMap enc
 | [], _, _, h, _, _ => by simp at h
 | y :: l, 0, x, h, hx, hj => by
  simp at h; subst h
  have hy := hz y
  simp only [Nat.zero_mul, Nat.zero_add, List.flatMap_cons, List.set_cons_zero]
  rw [List.take_append_of_le_length (by omega), List.drop_append_of_le_length (by omega), ← List.append_assoc, hx]
 | y :: l, i + 1, x, h, hx, hj => by
  have ih := flat_set hz x' vs j l i x (by simpa using h) hx hj
  have hy := hz y
  simp only [List.flatMap_cons, List.set_cons_succ]
  rw [← ih]
  have e1 : (i + 1) * sz + j = (enc y).length + (i * sz + j) := by rw [hy, Nat.succ_mul]; omega
  rw [e1, List.take_append, List.take_of_length_le (by omega)]
  have e2 : (enc y).length + (i * sz + j) + vs.length = (enc y).length + (i * sz + j + vs.length) := by omega
  rw [e2, List.drop_append, List.drop_of_length_le (by omega)]
  have e3 : (enc y).length + (i * sz + j) - (enc y).length = i * sz + j := by omega
  have e4 : (enc y).length + (i * sz + j + vs.length) - (enc y).length = i * sz + j + vs.length := by omega
  rw [e3, e4]
  simp
/-- A store into an element of a row that is owned. -/
theorem lm_storeIx [Inhabited α] (k : Nat) {t : TypeId} {x y : Operand} {el sz : Nat} {enc : α → List Value} {A : Option Addr} {n1 c : Nat} {l : List α} {i : Int} (x' : α) (j : Nat) {p : Addr} (vs : List Value) (hc : chk0 ops e ⟨dst, .store t x y, ty, ps, af, g⟩ = true) (hx : eev e x = .pointer (some p)) (hp : p = ⟨ab A, ao A + i.toNat * sz + j, none⟩) (hs : sizeIs P t vs.length = true) (hy : (eev e y).cells = vs.toArray) (hv : vs.all Value.oneCell' = true)
  (hk : H[k]? = some (ownE el sz enc A n1 c l)) (hz : ∀ x, (enc x).length = sz) (_ : ∀ x, (enc x).all Value.oneCell' = true) (h0 : 0 ≤ i) (hl : i < l.length) (hj : Nat.ble (j + vs.length) sz = true) (hcs : (enc (ix l i)).take j ++ vs ++ (enc (ix l i)).drop (j + vs.length) = enc x')
  (next : Lm P n w0 ops Q rest m e (H.set k (ownE el sz enc A n1 c (l.set i.toNat x')))) : Lm P n w0 ops Q (⟨dst, .store t x y, ty, ps, af, g⟩ :: rest) m e H := fun r hr w hw => by
 obtain ⟨hn, hown⟩ := hw.get k hk
 subst hp
 have hj' : j + vs.length ≤ sz := Nat.le_of_ble_eq_true hj
 have hget := ix_get h0 hl
 have hil : i.toNat < l.length := by omega
 have hpos : i.toNat * sz + sz ≤ l.length * sz := by rw [← Nat.succ_mul]; exact Nat.mul_le_mul_right _ hil
 rcases hown.2 with ⟨_, h00⟩ | ⟨gg, cap, cur, hvv, _, hh, hnc, hm, hsz, htk⟩
 ·omega
 ·injection hvv with a1 a2 a3
  subst a1
  have hlen1 := hown.1
  unfold sizeIs at hs
  cases hi : P.info? t with
  | none => rw [hi] at hs; cases hs
  | some inf =>
   have hsz2 : inf.size = vs.length := by rw [hi] at hs; exact Nat.eq_of_beq_eq_true hs
   have hcap : l.length * sz ≤ cap * sz := Nat.mul_le_mul_right _ (by omega)
   have hst := run_storeCells_at (P := P) gg (i.toNat * sz + j) el vs 0 cur w hh (by omega) (fun u hu => List.all_eq_true.1 hv u hu)
   simp only [Nat.add_zero] at hst
   have hab : ab (some (⟨gg, 0, none⟩ : Addr)) = gg := rfl
   have hao : ao (some (⟨gg, 0, none⟩ : Addr)) = 0 := rfl
   rw [hab, hao, Nat.zero_add] at hx
   have hrun : (execOp (eev e) ⟨dst, .store t x y, ty, ps, af, g⟩).run P w = .ok .skip (w.setRow gg (cur.toList.take (i.toNat * sz + j) ++ vs ++ cur.toList.drop (i.toNat * sz + j + vs.length)).toArray) := by
    simp only [execOp, Instr.storeAt, hx]
    simp [Instr.sureAddr, storeVar, sizeOf, typeInfo, hi, hsz2, hy, hst]
   refine wl_do hc hrun (next r hr _ ?_)
   have hbl := below_setRow (Below.refl 0 w) (Nat.zero_le gg) (cur.toList.take (i.toNat * sz + j) ++ vs ++ cur.toList.drop (i.toNat * sz + j + vs.length)).toArray
   refine hw.set_ k hk hbl (Nat.le_refl _) (fun b _ hb' => ?_) ⟨by simpa using hn, ?_, .inr ⟨gg, cap, (cur.toList.take (i.toNat * sz + j) ++ vs ++ cur.toList.drop (i.toNat * sz + j + vs.length)).toArray, by rw [a3], Nat.zero_le _, setRow_heap w gg cur _ el _ hh, hnc, hm, ?_, ?_⟩⟩ (fun b hb' => ?_)
   ·exact setRow_other w gg b _ (fun e1 => hb' (by rw [e1]; rfl))
   ·rw [flat_len hz]; simp; rw [hn]
   ·have hcl : cur.toList.length = cap * sz := by simpa using hsz
    simp only [List.size_toArray, List.length_append, List.length_take, List.length_drop, hcl]
    omega
   ·have hfs := flat_set hz x' vs j l i.toNat (ix l i) hget hcs hj'
    rw [← hfs, ← htk]
    have hcl : cur.toList.length = cap * sz := by simpa using hsz
    have hN : n1 * sz = l.length * sz := by rw [hn]
    simp only [hN]
    rw [List.take_append, List.take_append, List.take_take, Nat.min_eq_right (by omega), List.take_take, Nat.min_eq_left (by omega)]
    simp only [List.length_take, List.length_append, hcl]
    rw [Nat.min_eq_left (by omega), List.take_of_length_le (l := vs) (by omega)]
    congr 1
    rw [List.drop_take]
   ·have e1 : b = gg := by simpa [ownE, Value.ownBlock] using hb'.symm
    subst e1
    exact ⟨.inl rfl, by simpa [World.setRow] using (Array.getElem?_eq_some_iff.1 hh).1⟩
end
section
variable {P : Program} {e : Env} {w : World} {d : Option Tmp} {ty : TypeId} {ps : String} {af : Array Edge} {g : Option (Nat × Bool)} {α : Type}
theorem op_lenN {t : TypeId} {x : Operand} {A : Option Addr} {n c ll : Nat} (hx : eev e x = .slice A n c) (ht : isSliceT P t = true) (hn : n = ll) : OpV P e w ⟨d, .call ⟨.builtin .len, #[x], #[t]⟩, ty, ps, af, g⟩ (.int .i64 (ll : Int)) := by
 subst hn; exact op_len hx ht
theorem RdE.take {sz : Nat} {enc : α → List Value} {A : Option Addr} {l : List α} {i : Int} (h : RdE w sz enc A l) (_ : 0 ≤ i) (_ : i ≤ l.length) : RdE w sz enc A (l.take i.toNat) := by
 refine ⟨Nat.le_trans (by simp; omega) h.1, fun hp => ?_⟩
 obtain ⟨b, off, e1, hb, hc⟩ := h.2 (by simp at hp; omega)
 refine ⟨b, off, e1, hb, fun k x hx => hc k x ?_⟩
 rw [List.getElem?_take] at hx
 split at hx
 ·exact hx
 ·cases hx
theorem SW.take {A : Option Addr} {n c : Nat} {l : List α} {i : Int} (h : SW A n c l.length) (h0 : 0 ≤ i) (h1 : i ≤ l.length) : SW A i.toNat c (l.take i.toNat).length := by
 obtain ⟨a1, a2, a3⟩ := h
 exact ⟨a1, by omega, by simp; omega⟩
theorem op_sliceTo2 {t : TypeId} {x hi : Operand} {A : Option Addr} {n c : Nat} {l : List α} {i : Int} (hx : eev e x = .slice A n c) (hh : eev e hi = .int .i64 i) (ht : isSliceT P t = true) (hs : (elemSz P t).isSome = true) (hw : SW A n c l.length) (h0 : 0 ≤ i) (h1 : i ≤ l.length) :
  OpV P e w ⟨d, .slice t x none (some hi) none, ty, ps, af, g⟩ (.slice A i.toNat c) := by
 obtain ⟨sz, hs⟩ := Option.isSome_iff_exists.1 hs
 obtain ⟨k, rfl⟩ := Int.eq_ofNat_of_zero_le h0
 obtain ⟨a1, a2, a3⟩ := hw
 exact op_sliceTo hx hh ht hs (by omega)
theorem op_min {t t' : TypeId} {x y : Operand} {a b : Int} (hx : eev e x = .int .i64 a) (hy : eev e y = .int .i64 b) : OpV P e w ⟨d, .call ⟨.builtin .min, #[x, y], #[t, t']⟩, ty, ps, af, g⟩ (.int .i64 (min a b)) := by
 have : (if b < a then b else a) = min a b := by split <;> omega
 simp [OpV, execOp, resolve, invoke, builtin, Builtin.min_, Builtin.min2, hx, hy, this]
theorem op_max {t t' : TypeId} {x y : Operand} {a b : Int} (hx : eev e x = .int .i64 a) (hy : eev e y = .int .i64 b) : OpV P e w ⟨d, .call ⟨.builtin .max, #[x, y], #[t, t']⟩, ty, ps, af, g⟩ (.int .i64 (max a b)) := by
 have : (if a < b then b else a) = max a b := by split <;> omega
 simp [OpV, execOp, resolve, invoke, builtin, Builtin.max_, Builtin.max2, hx, hy, this]
end
end Go.Proofs.YtbnimhmoffchdaaGreatDoor
/- Regions that draw their order and hold calls or make memory: a condition S on the world is kept; what S decides is taken first. -/
namespace Go.Proofs.YtbnimhmoffchdaaGreatDoor
open Go.RowKit

theorem wpAnyH_mono {P : Program} {md : Region.Mode} {ops : Array Oper} {Q : Exit → Act → World → Prop} {S S2 : World → Prop} (hS : ∀ w, S2 w → S w) : ∀ (fuel : Nat) (listed : Array Bool) (a : Act) (w : World), wpAnyH P md ops Q S2 fuel listed a w → wpAnyH P md ops Q S fuel listed a w
 | 0, _, _, _, h => h
 | fuel + 1, _, _, _, h => ⟨h.1, fun i hi => wpOp_mono (fun a' w' hw => ⟨hS _ hw.1, wpAnyH_mono hS fuel _ a' w' hw.2⟩) (h.2 i hi)⟩
def done (listed : Array Bool) (i : Nat) : Array Bool := listed.setIfInBounds i true
def wh {σ : Type} (P : Program) (n : Nat) (ops : Array Oper) (E : σ → Env) (H : σ → World → Prop) (S : World → Prop) (fuel : Nat) (listed : Array Bool) (e : Env) (w : World) : Prop :=
 ∀ a, Fr n a e → wpAnyH P .any ops (PostS n E H) S fuel listed a w
/-- Operation i may come up, and may come up first. -/
def mayTake (ops : Array Oper) (listed : Array Bool) (i : Nat) : Bool := Region.noSelect ops && (Region.free .any ops listed i && (Region.ready .any ops listed).contains i)
section
variable {σ : Type} {P : Program} {n : Nat} {ops : Array Oper} {E : σ → Env} {H : σ → World → Prop} {S S2 : World → Prop} {fuel : Nat} {listed : Array Bool} {e e' : Env} {w : World} {o : Oper}
theorem wh_strong (S2 : World → Prop) (hS : ∀ w, S2 w → S w) (h : wh P n ops E H S2 fuel listed e w) : wh P n ops E H S fuel listed e w := fun a hf => wpAnyH_mono hS _ _ _ _ (h a hf)
theorem wh_take (i d : Nat) {v : Value} (hi : ops[i]? = some o) (hm : mayTake ops listed i = true) (hc : chk ops e n o d true = true) (hv : ∀ w, S w → OpV P e w o v) (hS : S w) (next : wh P n ops E H S fuel (done listed i) ((d, v) :: e) w) : wh P n ops E H S (fuel + 1) listed e w := fun a hf => by
 obtain ⟨hd, hn, hs, hg, hk⟩ := chk_spec hc
 simp only [mayTake, Bool.and_eq_true] at hm
 refine wpAnyH_take (v := v) hi hm.1 hm.2.1 hm.2.2 (fun _ _ _ h => absurd h.1 (by simp)) (.inl ⟨gOk_wanted hf hg, fun w hw => ?_⟩) hS ?_
 ·rw [exec_fr hf hs (hk rfl)]; exact hv w hw
 ·rw [hd]; exact next _ (hf.put hn v)
theorem wh_dec (i d : Nat) {φ : Prop} [Decidable φ] (hi : ops[i]? = some o) (hm : mayTake ops listed i = true) (hc : chk ops e n o d true = true) (hv : ∀ w, S w → OpV P e w o (.bool (decide φ))) (hS : S w)
  (ht : φ → wh P n ops E H S fuel (done listed i) ((d, .bool true) :: e) w) (hf : ¬ φ → wh P n ops E H S fuel (done listed i) ((d, .bool false) :: e) w) : wh P n ops E H S (fuel + 1) listed e w := by
 by_cases h : φ
 ·rw [decide_eq_true h] at hv; exact wh_take i d hi hm hc hv hS (ht h)
 ·rw [decide_eq_false h] at hv; exact wh_take i d hi hm hc hv hS (hf h)
theorem wh_bool (i d : Nat) {b : Bool} (hi : ops[i]? = some o) (hm : mayTake ops listed i = true) (hc : chk ops e n o d true = true) (hv : ∀ w, S w → OpV P e w o (.bool b)) (hS : S w)
  (ht : b = true → wh P n ops E H S fuel (done listed i) ((d, .bool true) :: e) w) (hf : b = false → wh P n ops E H S fuel (done listed i) ((d, .bool false) :: e) w) : wh P n ops E H S (fuel + 1) listed e w := by
 cases b
 ·exact wh_take i d hi hm hc hv hS (hf rfl)
 ·exact wh_take i d hi hm hc hv hS (ht rfl)
theorem wh_skip (i d : Nat) (hi : ops[i]? = some o) (hm : mayTake ops listed i = true) (hc : chk ops e n o d false = true) (hS : S w) (next : wh P n ops E H S fuel (done listed i) ((d, undef) :: e) w) : wh P n ops E H S (fuel + 1) listed e w := fun a hf => by
 obtain ⟨hd, hn, hs, hg, hk⟩ := chk_spec hc
 simp only [mayTake, Bool.and_eq_true] at hm
 refine wpAnyH_take (v := undef) hi hm.1 hm.2.1 hm.2.2 (fun _ _ _ h => absurd h.1 (by simp)) (.inr ⟨gOk_wanted hf hg, rfl⟩) hS ?_
 rw [hd]; exact next _ (hf.put hn undef)
/-- The one operation that may come up: a call. -/
theorem wh_call (i d : Nat) {f : FuncId} {args : Array Value} {R : Ending → World → Prop} (hi : ops[i]? = some o) (hr : Region.ready .any ops listed = [i]) (hc : chk ops e n o d true = true) (hv : (execOp (eev e) o).run P w = .ok (.enter f args) w) (hR : Calls P f args w R)
  (next : ∀ x w', R x w' → ∃ v, x = .returned v ∧ S w' ∧ wh P n ops E H S fuel (done listed i) ((d, v) :: e) w') : wh P n ops E H S (fuel + 1) listed e w := fun a hf => by
 obtain ⟨hd, hn, hs, hg, hk⟩ := chk_spec hc
 refine wpAnyH_all hr (by simp) fun j hj => ?_
 obtain rfl : j = i := by simpa using hj
 unfold wpOp
 simp only [hi]
 rw [if_pos (gOk_wanted hf hg)]
 refine .inl ?_
 unfold Oper.wp
 rw [exec_fr hf hs (hk rfl), hv]
 simp only [Oper.upon]
 refine hR.mono fun x w' hR => ?_
 obtain ⟨v, rfl, h1, h2⟩ := next x w' hR
 simp only
 rw [hd]
 exact ⟨h1, h2 _ (hf.put hn v)⟩
theorem wh_done (s : σ) (hr : Region.ready .any ops listed = []) (hE : Sub e (E s)) (hH : H s w) : wh P n ops E H S fuel listed e w := fun a hf => wpAnyH_done hr ⟨rfl, s, hE n a hf, hH⟩ fuel
theorem wc_held {id : Nat} {l : List Oper} {Q : Exit → Act → World → Prop} {K : Act → World → Prop} (S : World → Prop) (O : σ → Env) (H : σ → World → Prop) (m : Nat) (hm : P.follows .mixedOrders = true) (hl : l.length = m) (hS : S w.drew)
  (h : wh P n l.toArray (fun s => O s ++ e) H S m (Array.replicate m false) e w.drew) (k : ∀ s w', H s w' → wx n (Exit.then K Q) .normal (O s ++ e) w') : wc P n (.region id l.toArray true) (Exit.then K Q) e w := fun a hf => by
 subst hl
 have h1 : (Code.region id l.toArray true).wp P (PostS n (fun s => O s ++ e) H) a w := wp_region_held_drew (S := S) hm hS fun _ => by
  have := h a hf
  simpa using this
 exact Code.wp_mono (fun x a w' hp => by
  obtain ⟨hx, s, hfr, hH⟩ := hp
  subst hx; exact k s w' hH a hfr) h1
end
end Go.Proofs.YtbnimhmoffchdaaGreatDoor
/- Deco, regions that draw their order and change memory. Over any program. -/
namespace Go.Proofs.YtbnimhmoffchdaaGreatDoor
open Go.RowKit
set_option linter.unusedSectionVars false
variable [JF]

section
variable {σ : Type} {P : Program} {n : Nat} {ops : Array Oper} {E : σ → Env} {H : σ → World → Prop} {S : World → Prop} {fuel : Nat} {listed : Array Bool} {e : Env} {w : World} {o : Oper}
/-- Operation i comes up now. -/
def ws {σ : Type} (P : Program) (n : Nat) (ops : Array Oper) (E : σ → Env) (H : σ → World → Prop) (S : World → Prop) (fuel : Nat) (listed : Array Bool) (e : Env) (w : World) (i : Nat) : Prop :=
 ∀ a, Fr n a e → wpOp P ops (PostS n E H) i (fun a' w' => S w' ∧ wpAnyH P .any ops (PostS n E H) S fuel (done listed i) a' w') a w
def wsAll {σ : Type} (P : Program) (n : Nat) (ops : Array Oper) (E : σ → Env) (H : σ → World → Prop) (S : World → Prop) (fuel : Nat) (listed : Array Bool) (e : Env) (w : World) : List Nat → Prop
 | [] => True
 | i :: l => ws P n ops E H S fuel listed e w i ∧ wsAll P n ops E H S fuel listed e w l
theorem wsAll_mem : ∀ {l : List Nat}, wsAll P n ops E H S fuel listed e w l → ∀ i ∈ l, ws P n ops E H S fuel listed e w i
 | [], _, i, hi => by cases hi
 | j :: l, h, i, hi => by
  rcases List.mem_cons.1 hi with rfl | hi
  ·exact h.1
  ·exact wsAll_mem h.2 i hi
theorem wh_ready (l : List Nat) (hr : Region.ready .any ops listed = l) (hne : l.isEmpty = false) (h : wsAll P n ops E H S fuel listed e w l) : wh P n ops E H S (fuel + 1) listed e w := fun a hf =>
 wpAnyH_all hr (fun h0 => by rw [h0] at hne; cases hne) fun i hi => wsAll_mem h i hi a hf
theorem ws_call {i : Nat} (d : Nat) {f : FuncId} {args : Array Value} {R : Ending → World → Prop} (hi : ops[i]? = some o) (hc : chk ops e n o d true = true) (hv : (execOp (eev e) o).run P w = .ok (.enter f args) w) (hR : Calls P f args w R)
  (next : ∀ x w', R x w' → ∃ v, x = .returned v ∧ S w' ∧ wh P n ops E H S fuel (done listed i) ((d, v) :: e) w') : ws P n ops E H S fuel listed e w i := fun a hf => by
 obtain ⟨hd, hn, hs, hg, hk⟩ := chk_spec hc
 unfold wpOp
 simp only [hi]
 rw [if_pos (gOk_wanted hf hg)]
 refine .inl ?_
 unfold Oper.wp
 rw [exec_fr hf hs (hk rfl), hv]
 simp only [Oper.upon]
 refine hR.mono fun x w' hR => ?_
 obtain ⟨v, rfl, h1, h2⟩ := next x w' hR
 simp only
 rw [hd]
 exact ⟨h1, h2 _ (hf.put hn v)⟩
theorem ws_run {i : Nat} (d : Nat) {v : Value} {w' : World} (hi : ops[i]? = some o) (hc : chk ops e n o d true = true) (hv : (execOp (eev e) o).run P w = .ok (.value v) w')
  (hS : S w') (next : wh P n ops E H S fuel (done listed i) ((d, v) :: e) w') : ws P n ops E H S fuel listed e w i := fun a hf => by
 obtain ⟨hd, hn, hs, hg, hk⟩ := chk_spec hc
 unfold wpOp
 simp only [hi]
 rw [if_pos (gOk_wanted hf hg)]
 refine .inl ?_
 unfold Oper.wp
 rw [exec_fr hf hs (hk rfl), hv]
 simp only [Oper.upon]
 rw [hd]
 exact ⟨hS, next _ (hf.put hn v)⟩
theorem ws_do {i : Nat} {w' : World} (hi : ops[i]? = some o) (hc : chk0 ops e o = true) (hv : (execOp (eev e) o).run P w = .ok .skip w')
  (hS : S w') (next : wh P n ops E H S fuel (done listed i) e w') : ws P n ops E H S fuel listed e w i := fun a hf => by
 obtain ⟨hd, hs, hg, hk⟩ := chk0_spec hc
 unfold wpOp
 simp only [hi]
 rw [if_pos (gOk_wanted hf hg)]
 refine .inl ?_
 unfold Oper.wp
 rw [exec_fr hf hs hk, hv]
 simp only [Oper.upon]
 rw [hd]
 exact ⟨hS, next _ (hf.put_none undef)⟩
end
section
variable {P : Program} {n : Nat} {w0 : World} {ρ : Type} {Q : ρ → Exit → Act → World → Prop} {mm : Option ρ} {e : Env} {H : List HE}
theorem cm_held {ξ : Type} {id : Nat} {l : List Oper} {K' : ρ → Act → World → Prop} (E : ξ → Env) (HH : ξ → List HE) (HS : List HE) (m : Nat) (hm : P.follows .mixedOrders = true) (hl : l.length = m) (hS : HSub w0 H HS)
  (h : ∀ w, Hs w0 H w → wh P n l.toArray E (fun u w => Hs w0 (HH u) w) (Hs w0 HS) m (Array.replicate m false) e w) (k : ∀ u, Xm n w0 (fun r => Exit.then (K' r) (Q r)) .normal mm (E u) (HH u)) : Cm P n w0 (.region id l.toArray true) (fun r => Exit.then (K' r) (Q r)) mm e H := fun r hr w hw a hf => by
 subst hl
 have h1 : (Code.region id l.toArray true).wp P (PostS n E (fun u w => Hs w0 (HH u) w)) a w := wp_region_held_drew (S := Hs w0 HS) hm (hS _ hw.drew) fun _ => by
  have := h w.drew hw.drew a hf
  simpa using this
 exact Code.wp_mono (fun x a w' hp => by
  obtain ⟨hx, u, hfr, hH⟩ := hp
  subst hx; exact k u r hr w' hH a hfr) h1
end
/-! ### What the operations leave, for a world at hand -/
section
variable {P : Program} {w0 w : World} {e : Env} {H H' : List HE} {dst : Option Tmp} {ty : TypeId} {ps : String} {af : Array Edge} {g : Option (Nat × Bool)} {α : Type}
end
end Go.Proofs.YtbnimhmoffchdaaGreatDoor
/- Deco, more operations: literals of rows of several elements, integers of other kinds, equality, conversions. Over any program. -/
namespace Go.Proofs.YtbnimhmoffchdaaGreatDoor
open Go.RowKit
set_option linter.unusedSectionVars false
variable [JF]

theorem putL_mid (cs pre L M : List Value) (h : L.length = cs.length) : putL (pre ++ (L ++ M)) pre.length cs = pre ++ (cs ++ M) := by
 have gen : ∀ (cs pre L : List Value), L.length = cs.length → putL (pre ++ (L ++ M)) pre.length cs = pre ++ (cs ++ M) := by
  intro cs
  induction cs with
  | nil => intro pre L hL; have : L = [] := List.eq_nil_of_length_eq_zero (by simpa using hL); subst this; rfl
  | cons c cs ih =>
   intro pre L hL
   cases L with
   | nil => simp at hL
   | cons l L =>
    unfold putL
    have h1 : (pre ++ (l :: L ++ M)).set pre.length c = (pre ++ [c]) ++ (L ++ M) := by simp
    rw [h1]
    have := ih (pre ++ [c]) L (by simpa using hL)
    simp only [List.length_append, List.length_cons, List.length_nil, Nat.zero_add] at this
    rw [this]; simp
 exact gen cs pre L h
def rowsQ {α : Type} (enc : α → List Value) (sz : Nat) : Nat → List α → List (Nat × List Value)
 | _, [] => []
 | k, v :: vs => (k * sz, enc v) :: rowsQ enc sz (k + 1) vs
theorem fillL_rows {α : Type} {enc : α → List Value} {sz : Nat} (hz : ∀ x, (enc x).length = sz) : ∀ (vs : List α) (pre L : List Value) (k : Nat), pre.length = k * sz → L.length = vs.length * sz → fillL (pre ++ L) (rowsQ enc sz k vs) = pre ++ vs.flatMap enc
 | [], pre, L, k, _, hL => by
  have : L = [] := List.eq_nil_of_length_eq_zero (by simpa using hL)
  subst this; simp [rowsQ, fillL]
 | v :: vs, pre, L, k, hp, hL => by
  have hsz : sz ≤ L.length := by rw [hL, List.length_cons, Nat.succ_mul]; omega
  have e1 : L = L.take sz ++ L.drop sz := (List.take_append_drop sz L).symm
  have h1 := putL_mid (enc v) pre (L.take sz) (L.drop sz) (by rw [hz, List.length_take]; omega)
  rw [← e1] at h1
  unfold rowsQ fillL
  rw [← hp, h1, ← List.append_assoc]
  rw [fillL_rows hz vs (pre ++ enc v) (L.drop sz) (k + 1) (by rw [List.length_append, hp, hz, Nat.succ_mul]) (by rw [List.length_drop, hL, List.length_cons, Nat.succ_mul]; omega)]
  simp
def partsOk {α : Type} (e : Env) (enc : α → List Value) : Nat → List (Nat × Operand) → List α → Prop
 | _, [], [] => True
 | k, (i, x) :: ps, v :: vs => i = k ∧ (eev e x).cells = (enc v).toArray ∧ partsOk e enc (k + 1) ps vs
 | _, _, _ => False
theorem partsOk_fill {α : Type} {e : Env} {enc : α → List Value} {sz N : Nat} (hz : ∀ x, (enc x).length = sz) : ∀ (ps : List (Nat × Operand)) (vs : List α) (k : Nat), partsOk e enc k ps vs → k + vs.length ≤ N → fillOk ((List.range N).map fun i => (i * sz, sz)) (N * sz) (ps.map fun p => (p.1, eev e p.2)) (rowsQ enc sz k vs)
 | [], [], _, _, _ => trivial
 | (i, x) :: ps, v :: vs, k, h, hN => by
  obtain ⟨rfl, h2, h3⟩ := h
  simp only [List.length_cons] at hN
  refine ⟨?_, h2, ?_, partsOk_fill hz ps vs (i + 1) h3 (by omega)⟩
  ·rw [hz, List.getElem?_map, List.getElem?_range (by omega)]; rfl
  ·rw [hz, ← Nat.succ_mul]; exact Nat.mul_le_mul_right _ (by omega)
 | [], _ :: _, _, h, _ => by cases h
 | _ :: _, [], _, h, _ => by cases h
section
variable {P : Program} {w0 w : World} {e : Env} {H H' : List HE} {dst : Option Tmp} {ty : TypeId} {ps : String} {af : Array Edge} {g : Option (Nat × Bool)} {α : Type}
theorem rn_sliceN {t el sz bytes N : Nat} {parts : List (Nat × Operand)} {enc : α → List Value} (vs : List α) (hT : rowOk P t el sz bytes = true) (hz : ∀ x, (enc x).length = sz) (hN : N = vs.length) (hp : partsOk e enc 0 parts vs) (hs : Nat.ble (N * sz) 16777216 = true) (h0 : Nat.blt 0 N = true) (hw : Hs w0 H w) :
  ∃ A n' c w', A ≠ none ∧ (execOp (eev e) ⟨dst, .buildSlice t N parts.toArray, ty, ps, af, g⟩).run P w = .ok (.value (.slice A n' c)) w' ∧ Hs w0 (ownE el sz enc A n' c vs :: H) w' := by
 subst hN
 obtain ⟨hu, i, z, hi, hzz, h1, h2, h3, h4⟩ := rowOk_spec hT
 have hs' : ¬ 2 ^ 24 < vs.length * sz := by have := Nat.le_of_ble_eq_true hs; omega
 have hN0 : 0 < vs.length := by simpa using h0
 have hne : ¬ vs.length * sz = 0 := Nat.ne_of_gt (Nat.mul_pos hN0 h4)
 have hfill : Instr.fill (fun i => some (i * sz, sz)) ((Array.range (vs.length * sz)).map (z.cells[· % z.cells.size]!)) (parts.map fun p => (p.1, eev e p.2)) = some (vs.flatMap enc).toArray := by
  have e0 : (Array.range (vs.length * sz)).map (z.cells[· % z.cells.size]!) = (((Array.range (vs.length * sz)).map (z.cells[· % z.cells.size]!)).toList).toArray := by rw [Array.toArray_toList]
  rw [e0]
  generalize hL : ((Array.range (vs.length * sz)).map (z.cells[· % z.cells.size]!)).toList = L
  have hLl : L.length = vs.length * sz := by rw [← hL]; simp
  have := fill_fillL (fun i => some (i * sz, sz)) ((List.range vs.length).map fun i => (i * sz, sz)) (fun i p hp => by
   rw [List.getElem?_map] at hp
   cases hq : (List.range vs.length)[i]? with
   | none => rw [hq] at hp; cases hp
   | some q =>
    rw [hq] at hp
    obtain ⟨hl, rfl⟩ := List.getElem?_eq_some_iff.1 hq
    simp at hp ⊢; exact hp) (parts.map fun p => (p.1, eev e p.2)) (rowsQ enc sz 0 vs) L (by rw [hLl]; exact partsOk_fill hz parts vs 0 hp (by omega))
  rw [this]
  have hf := fillL_rows hz vs [] L 0 (by simp) hLl
  simp only [List.nil_append] at hf
  rw [hf]
 refine ⟨some ⟨w.heap.size, 0, none⟩, vs.length, vs.length, w.alloc (.cells (vs.flatMap enc).toArray el), by simp, ?_, ?_⟩
 ·simp only [execOp, Instr.buildSlice]
  simp only [Sem.run_bind, run_underlying hu, sizeOf, typeInfo]
  simp [hi, h1, hs', hne, zeroValue, typeInfo, hzz]
  simp [hfill, newRow]
 ·refine hw.push ((Below.refl _ _).alloc (Nat.le_refl _) _) (Nat.le_refl _) ?_ (fun b hb => ?_)
  ·have hfl := flat_len hz vs
   refine ⟨rfl, hfl, .inr ⟨w.heap.size, vs.length, (vs.flatMap enc).toArray, rfl, Nat.zero_le _, heap_alloc_new w _, Nat.le_refl _, ?_, by simpa using hfl, ?_⟩⟩
   ·have := Nat.le_mul_of_pos_right vs.length h4
    unfold maxLen; omega
   ·simp only; rw [← hfl]; exact List.take_length
  ·have e1 : b = w.heap.size := by simpa [ownE, Value.ownBlock] using hb.symm
   subst e1; exact ⟨Nat.le_refl _, by simp⟩
end
section
variable {P : Program} {n : Nat} {w0 : World} {ρ : Type} {Q : ρ → Exit → Act → World → Prop} {m : Option ρ} {e : Env} {H : List HE} {ops : Array Oper} {rest : List Oper} {dst : Option Tmp} {ty : TypeId} {ps : String} {af : Array Edge} {g : Option (Nat × Bool)} {α : Type}
theorem lm_sliceN (d : Nat) {t el sz bytes N : Nat} {parts : List (Nat × Operand)} {enc : α → List Value} (vs : List α) (hc : chk ops e n ⟨dst, .buildSlice t N parts.toArray, ty, ps, af, g⟩ d true = true) (hT : rowOk P t el sz bytes = true) (hz : ∀ x, (enc x).length = sz) (hN : N = vs.length) (hp : partsOk e enc 0 parts vs) (hs : Nat.ble (N * sz) 16777216 = true) (h0 : Nat.blt 0 N = true)
  (next : ∀ A n' c, A ≠ none → Lm P n w0 ops Q rest m ((d, .slice A n' c) :: e) (ownE el sz enc A n' c vs :: H)) : Lm P n w0 ops Q (⟨dst, .buildSlice t N parts.toArray, ty, ps, af, g⟩ :: rest) m e H := fun r hr w hw => by
 obtain ⟨A, n', c, w', hA, hrun, hw'⟩ := rn_sliceN (dst := dst) (ty := ty) (ps := ps) (af := af) (g := g) vs hT hz hN hp hs h0 hw
 exact wl_run d hc hrun (next A n' c hA r hr w' hw')
end
section
variable {σ : Type} {P : Program} {n : Nat} {ops : Array Oper} {E : σ → Env} {HQ : σ → World → Prop} {S : World → Prop} {fuel : Nat} {listed : Array Bool} {e : Env} {w w0 : World} {H : List HE} {dst : Option Tmp} {ty : TypeId} {ps : String} {af : Array Edge} {g : Option (Nat × Bool)} {α : Type}
theorem ws_sliceN {i : Nat} (d : Nat) {t el sz bytes N : Nat} {parts : List (Nat × Operand)} {enc : α → List Value} (vs : List α) (hi : ops[i]? = some ⟨dst, .buildSlice t N parts.toArray, ty, ps, af, g⟩) (hc : chk ops e n ⟨dst, .buildSlice t N parts.toArray, ty, ps, af, g⟩ d true = true) (hT : rowOk P t el sz bytes = true) (hz : ∀ x, (enc x).length = sz) (hN : N = vs.length) (hp : partsOk e enc 0 parts vs) (hs : Nat.ble (N * sz) 16777216 = true) (h0 : Nat.blt 0 N = true) (hw : Hs w0 H w)
  (next : ∀ A n' c w', Hs w0 (ownE el sz enc A n' c vs :: H) w' → S w' ∧ wh P n ops E HQ S fuel (done listed i) ((d, .slice A n' c) :: e) w') : ws P n ops E HQ S fuel listed e w i := by
 obtain ⟨A, n', c, w', hA, hrun, hw'⟩ := rn_sliceN (dst := dst) (ty := ty) (ps := ps) (af := af) (g := g) vs hT hz hN hp hs h0 hw
 obtain ⟨h1, h2⟩ := next A n' c w' hw'
 exact ws_run d hi hc hrun h1 h2
end
end Go.Proofs.YtbnimhmoffchdaaGreatDoor
/- Deco: short forms. A run of operations on slots alone is taken at once; rules for code that stand for two or three. -/
namespace Go.Proofs.YtbnimhmoffchdaaGreatDoor
open Go.RowKit
set_option linter.unusedSectionVars false
variable [JF]

/-- What an operation on slots alone yields. -/
def pv (e : Env) : Op → Option Value
 | .move x => some (eev e x)
 | .assign x => some (eev e x)
 | .pick c x y => match eev e c with
  | .bool b => match b with
   | true => some (eev e x)
   | false => some (eev e y)
  | _ => none
 | .extract x k => match eev e x with
  | .tuple vs => vs.toList[k]?
  | _ => none
 | .unOp .not _ x => match eev e x with
  | .bool b => some (.bool (!b))
  | _ => none
 | .binOp .lss _ x y _ => match eev e x, eev e y with
  | .int .i64 a, .int .i64 b => some (.bool (decide (a < b)))
  | _, _ => none
 | .binOp .leq _ x y _ => match eev e x, eev e y with
  | .int .i64 a, .int .i64 b => some (.bool (decide (a ≤ b)))
  | _, _ => none
 | .binOp .gtr _ x y _ => match eev e x, eev e y with
  | .int .i64 a, .int .i64 b => some (.bool (decide (b < a)))
  | _, _ => none
 | .binOp .geq _ x y _ => match eev e x, eev e y with
  | .int .i64 a, .int .i64 b => some (.bool (decide (b ≤ a)))
  | _, _ => none
 | .binOp .eql _ x y _ => match eev e x, eev e y with
  | .int .i64 a, .int .i64 b => some (.bool (decide (a = b)))
  | _, _ => none
 | .binOp .neq _ x y _ => match eev e x, eev e y with
  | .int .i64 a, .int .i64 b => some (.bool (decide (a ≠ b)))
  | _, _ => none
 | _ => none
theorem pv_ok {P : Program} {e : Env} {w : World} {d : Option Tmp} {ty : TypeId} {ps : String} {af : Array Edge} {g : Option (Nat × Bool)} {op : Op} {v : Value} (h : pv e op = some v) : OpV P e w ⟨d, op, ty, ps, af, g⟩ v := by
 unfold pv at h
 split at h
 ·injection h with h; exact op_move h
 ·injection h with h; exact op_assign h
 ·split at h
  ·rename_i hc
   split at h
   ·injection h with h; exact op_pick_t hc h
   ·injection h with h; exact op_pick_f hc h
  ·cases h
 ·split at h
  ·rename_i hx
   exact op_extract hx (by simpa using h)
  ·cases h
 ·split at h
  ·rename_i hx
   injection h with h; subst h; exact op_not hx
  ·cases h
 all_goals first
  | (split at h
     ·rename_i hx hy
      injection h with h
      subst h
      first | exact op_lss hx hy | exact op_leq hx hy | exact op_gtr hx hy | exact op_geq hx hy | exact op_eql hx hy | exact op_neq hx hy
     ·cases h)
  | cases h
/-- The first k operations, each on slots alone or not wanted: the slots behind them, and what is left. -/
def runS (ops : Array Oper) (n : Nat) : Nat → Env → List Oper → Option (Env × List Oper)
 | 0, e, l => some (e, l)
 | _ + 1, _, [] => none
 | k + 1, e, o :: l => match o.dst with
  | none => none
  | some d => match chk ops e n o d true with
   | true => match pv e o.op with
    | some v => runS ops n k ((d, v) :: e) l
    | none => none
   | false => match chk ops e n o d false with
    | true => runS ops n k ((d, undef) :: e) l
    | false => none
section
variable {P : Program} {n : Nat} {w0 : World} {ρ : Type} {Q : ρ → Exit → Act → World → Prop} {m : Option ρ} {H : List HE} {ops : Array Oper}
theorem la : ∀ (k : Nat) {e : Env} (e' : Env) {l l' : List Oper}, runS ops n k e l = some (e', l') → Lm P n w0 ops Q l' m e' H → Lm P n w0 ops Q l m e H
 | 0, e, e', l, l', h, next => by
  simp only [runS, Option.some.injEq, Prod.mk.injEq] at h
  obtain ⟨rfl, rfl⟩ := h
  exact next
 | k + 1, e, e', [], l', h, _ => by cases h
 | k + 1, e, e', o :: l, l', h, next => by
  unfold runS at h
  split at h
  ·cases h
  ·rename_i d _
   split at h
   ·rename_i hc
    split at h
    ·rename_i v hv
     exact lm_val d hc (fun w _ => pv_ok hv) (la k e' h next)
    ·cases h
   ·split at h
    ·rename_i hc
     exact lm_skip d hc (la k e' h next)
    ·cases h
theorem qa {C : World → Prop} {K : Act → Prop} : ∀ (k : Nat) {e : Env} (e' : Env) {l l' : List Oper}, runS ops n k e l = some (e', l') → wq P n ops C K l' e' → wq P n ops C K l e
 | 0, e, e', l, l', h, next => by
  simp only [runS, Option.some.injEq, Prod.mk.injEq] at h
  obtain ⟨rfl, rfl⟩ := h
  exact next
 | k + 1, e, e', [], l', h, _ => by cases h
 | k + 1, e, e', o :: l, l', h, next => by
  unfold runS at h
  split at h
  ·cases h
  ·rename_i d _
   split at h
   ·rename_i hc
    split at h
    ·rename_i v hv
     exact wq_val d hc (fun w _ => pv_ok hv) (qa k e' h next)
    ·cases h
   ·split at h
    ·rename_i hc
     exact wq_skip d hc (qa k e' h next)
    ·cases h
variable {e : Env}
theorem sr {id : Nat} {l : List Oper} {y : Code} (h : Lm P n w0 l.toArray (fun r => Exit.then (y.wp P (Q r)) (Q r)) l m e H) : Cm P n w0 (.seq (.region id l.toArray false) y) Q m e H := cm_seq (cm_region h)
theorem nn {y : Code} {Q' : ρ → Exit → Act → World → Prop} (h : Cm P n w0 y Q' m e H) : Lm P n w0 ops (fun r => Exit.then (y.wp P (Q' r)) (Q r)) [] m e H := lm_nil (xm_next h)
theorem sk {y : Code} {Q' : ρ → Exit → Act → World → Prop} (h : Cm P n w0 y Q' m e H) : Cm P n w0 .skip (fun r => Exit.then (y.wp P (Q' r)) (Q r)) m e H := cm_skip (xm_next h)
theorem v_ {o : Oper} {rest : List Oper} (d : Nat) {v : Value} (hv : ∀ w, Hs w0 H w → OpV P e w o v) (next : Lm P n w0 ops Q rest m ((d, v) :: e) H) (hc : chk ops e n o d true = true := by kernel_rfl) : Lm P n w0 ops Q (o :: rest) m e H := lm_val d hc hv next
theorem q_ {C : World → Prop} {K : Act → Prop} {o : Oper} {rest : List Oper} (d : Nat) {v : Value} (hv : ∀ w, C w → OpV P e w o v) (next : wq P n ops C K rest ((d, v) :: e)) (hc : chk ops e n o d true = true := by kernel_rfl) : wq P n ops C K (o :: rest) e := wq_val d hc hv next
theorem qd {C : World → Prop} {K : Act → Prop} {o : Oper} {rest : List Oper} (d : Nat) {φ : Prop} [Decidable φ] (hv : ∀ w, C w → OpV P e w o (.bool (decide φ))) (ht : φ → wq P n ops C K rest ((d, .bool true) :: e)) (hf : ¬ φ → wq P n ops C K rest ((d, .bool false) :: e)) (hc : chk ops e n o d true = true := by kernel_rfl) : wq P n ops C K (o :: rest) e := wq_dec d hc hv ht hf
end
section
variable {P : Program} {e : Env} {w : World} {d : Option Tmp} {ty : TypeId} {ps : String} {af : Array Edge} {g : Option (Nat × Bool)}
theorem oL {t : TypeId} {x : Operand} {p : Addr} {v : Value} (hc : w.cell? p = some v) (hx : eev e x = .pointer (some p) := by rfl) (h1 : oneCell P t = true := by kernel_rfl) : OpV P e w ⟨d, .load t x, ty, ps, af, g⟩ v := op_load hx h1 hc
theorem oR {t : TypeId} {x : Operand} {b o : Nat} (cs : List Value) (hc : ∀ j v, cs[j]? = some v → w.cell? ⟨b, o + j, none⟩ = some v) (hx : eev e x = .pointer (some ⟨b, o, none⟩) := by rfl) (hs : aggSz P t = some cs.length := by kernel_rfl) : OpV P e w ⟨d, .load t x, ty, ps, af, g⟩ (.agg cs.toArray) := op_loadR cs hx hs hc
theorem oF {t : TypeId} {x : Operand} {f o b : Nat} (m k : Nat) (hx : eev e x = .pointer (some ⟨b, o, none⟩)) (hk : o + m = k := by rfl) (hf : fOff P t f = some m := by kernel_rfl) : OpV P e w ⟨d, .fieldAddr t x f, ty, ps, af, g⟩ (.pointer (some ⟨b, k, none⟩)) := op_fieldL hx hf hk
theorem oI {t : TypeId} {x ix : Operand} {A : Option Addr} {l c : Nat} (sz : Nat) {i : Int} {ll : Nat} (hx : eev e x = .slice A l c) (hi : eev e ix = .int .i64 i) (hA : A = some ⟨ab A, ao A, none⟩) (hn : l = ll) (h : 0 ≤ i ∧ i < ll) (hs : elemSz P t = some sz := by kernel_rfl) : OpV P e w ⟨d, .indexAddr t x ix, ty, ps, af, g⟩ (.pointer (some ⟨ab A, ao A + i.toNat * sz, none⟩)) := op_indexA sz hx hi hs hA hn h.1 h.2
end
section
variable {P : Program} {n : Nat} {w0 : World} {ρ ξ : Type} {m : Option ρ}
/-- The call returns, as V says, with HR in new memory. -/
abbrev Ret (P : Program) (f : FuncId) (args : List Value) (w0 : World) (V : ρ → ξ → Value) (HR : ρ → ξ → List HE) (r : ρ) : Prop := Calls P f args.toArray w0 fun x w1 => ∃ u, x = .returned (V r u) ∧ Hs w0 (HR r u) w1
theorem calls_v {f : FuncId} {fn : Func} {c : Code} {args : List Value} {V : ρ → ξ → Value} {HR : ρ → ξ → List HE} (r : ρ) (hr : m = some r) (hf : P.funcs[f]? = some fn) (h : Cm P n w0 c (fun r => bodyPost P fn fun x w1 => ∃ u, x = .returned (V r u) ∧ Hs w0 (HR r u) w1) m (argEnv 0 args) []) (hl : Nat.ble args.length n = true := by rfl) (hb : fn.body = some c := by rfl) (hn : fn.ntmps = n := by rfl) : Ret P f args w0 V HR r :=
 calls_cm (R := fun r x w1 => ∃ u, x = .returned (V r u) ∧ Hs w0 (HR r u) w1) hf hb hn (Nat.le_of_ble_eq_true hl) h r hr
end
/-- Slots by one look. -/
theorem sq {e e' : Env} (h2 : e'.map (fun p => eget e p.1) = e'.map (·.2) := by kernel_rfl) (h1 : allHas e e' = true := by kernel_rfl) : Sub e e' := fun n a hf => by
 have key : ∀ O : Env, O.map (fun p => eget e p.1) = O.map (·.2) → eqs e O := fun O => by
  induction O with
  | nil => intro _; trivial
  | cons p O ih =>
   intro h
   simp only [List.map_cons, List.cons.injEq] at h
   exact ⟨h.1, ih h.2⟩
 refine ⟨hf.size, hf.defers, fun i hi => ?_⟩
 obtain ⟨h3, h4⟩ := eqs_get h1 (key _ h2) i hi
 rw [← h4]; exact hf.at_ i h3
theorem sh (ks : List Nat) {w0 : World} {H H' : List HE} (h1 : nodupB ks = true := by kernel_rfl) (h2 : hsel H ks = some H' := by rfl) : HSub w0 H H' := hsub ks h1 h2
theorem lq {P : Program} {n : Nat} {ops : Array Oper} {C : World → Prop} {e O b : Env} (k : Nat) (hb : e.drop k = b := by rfl) (h1 : (dropOk (O.map (·.1)) k b e && allHas e O) = true := by kernel_rfl) (h2 : O.map (fun p => eget e p.1) = O.map (·.2) := by kernel_rfl) : wq P n ops C (fun a => Fr n a (O ++ b)) [] e := by
 refine leaf_q (sub_out k O hb h1 ?_)
 clear h1 hb
 induction O with
 | nil => trivial
 | cons p O ih =>
  simp only [List.map_cons, List.cons.injEq] at h2
  exact ⟨h2.1, ih h2.2⟩
end Go.Proofs.YtbnimhmoffchdaaGreatDoor
