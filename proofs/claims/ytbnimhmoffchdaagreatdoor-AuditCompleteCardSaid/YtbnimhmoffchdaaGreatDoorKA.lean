/- General words for memory and small lemmas, over any program: blocks that are known whole, slices that read as lists, frames. -/
import Derived.Test.YtbnimhmoffchdaaGreatDoorRows
import Derived.WalkKit
import Derived.WalkSpells
import Derived.WalkLawsBesides
import Derived.Deep.RegionLaw
import Derived.Deep.AppendLies
import Derived.Deep.QuietTactic
import Derived.Deep.DeepCutAuto
import Derived.BigQuiet
import Derived.BigRegion
import Derived.StillTailTactics
import Derived.Lib.Hide
import Derived.Deep.DeepFit
import Derived.Laws.StructEq
namespace Go.Proofs.YtbnimhmoffchdaaGreatDoor
open Go.RowKit

def I64 (n : Int) : Prop := -9223372036854775808 ≤ n ∧ n ≤ 9223372036854775807
theorem ret_bool {a b : Bool} (h : a = b) : Ending.returned (.bool a) = .returned (.bool b) := by rw [h]
/-- Block g is just the cells cs of element type t, none frozen. -/
def Blk (w : World) (g : Nat) (t : TypeId) (cs : List Value) : Prop := w.heap[g]? = some (.cells cs.toArray t (0, 0))
section
variable {w w' : World} {g : Nat} {t : TypeId} {cs : List Value}
theorem Blk.lt (h : Blk w g t cs) : g < w.heap.size := (Array.getElem?_eq_some_iff.1 h).1
theorem Blk.cell (h : Blk w g t cs) (i : Nat) : w.cell? ⟨g, i, none⟩ = cs[i]? := by
 have := cell_of_row w g i cs.toArray t (0, 0) h
 simpa using this
theorem Blk.at_ (h : Blk w g t cs) (i : Nat) {u : Value} (hu : cs[i]? = some u) : w.cell? ⟨g, i, none⟩ = some u := (h.cell i).trans hu
theorem Blk.free (h : Blk w g t cs) (i : Nat) : w.frozen? ⟨g, i, none⟩ = false := by
 unfold Blk at h
 simp [World.frozen?, h]
theorem Blk.new (w : World) (t : TypeId) (cs : List Value) : Blk (w.alloc (.cells cs.toArray t)) w.heap.size t cs := heap_alloc_new w _
theorem Blk.drew (h : Blk w g t cs) : Blk w.drew g t cs := h
theorem Blk.drewN (h : Blk w g t cs) (n : Nat) : Blk (w.drewN n) g t cs := h
theorem Blk.alloc (h : Blk w g t cs) (o : Obj) : Blk (w.alloc o) g t cs := (Below.heap_alloc w o g h.lt).trans h
theorem Blk.set_ (h : Blk w g t cs) (i : Nat) (u : Value) : Blk (w.setCell ⟨g, i, none⟩ u) g t (cs.set i u) := by
 unfold Blk at h ⊢
 simp [World.setCell, Array.getElem?_modify, h]
theorem Blk.far (h : Blk w g t cs) {p : Addr} (hp : g ≠ p.block) (u : Value) : Blk (w.setCell p u) g t cs := (Below.heap_setCell w p u g hp).trans h
theorem Blk.below {B : Nat} (h : Blk w g t cs) (hb : Below B w w') (hg : g < B) : Blk w' g t cs := (hb.block g hg).trans h
theorem Blk.grown {row : Option Nat} (h : Blk w g t cs) (hb : w.grownBy w' row) (hg : some g ≠ row) : Blk w' g t cs := (hb.block g h.lt hg).trans h
theorem Blk.ne_ {g' : Nat} {t' : TypeId} {cs' : List Value} (h : Blk w g t cs) (h' : Blk w g' t' cs') (hne : t ≠ t') : g ≠ g' := by
 rintro rfl
 unfold Blk at h h'
 rw [h] at h'
 injection h' with h'
 injection h' with _ ht
 exact hne ht
theorem own_blk_ne {base : Nat} {e : TypeId} {size n : Nat} {v : Value} {xs : List Value} (h : w.ownsRow base e size v n xs) (hg : Blk w g t cs) (hne : e ≠ t) : some g ≠ v.ownBlock := by
 rcases h.2 with ⟨rfl, _⟩ | ⟨g', cap, cur, rfl, _, hh, _⟩
 ·simp [Value.ownBlock]
 ·intro he
  have e1 : g = g' := by simpa [Value.ownBlock] using he
  subst e1
  unfold Blk at hg
  rw [hh] at hg
  injection hg with hg
  injection hg with _ ht
  exact hne ht
end

/-- Old memory is as it was below B; a whole-known block whose element type is not listed is as it was. -/
structure Kp (ts : List TypeId) (B : Nat) (w w' : World) : Prop where
 below : Below B w w'
 blk : ∀ g t cs, t ∉ ts → Blk w g t cs → Blk w' g t cs
theorem Kp.trans {ts : List TypeId} {B : Nat} {a b c : World} (h : Kp ts B a b) (k : Kp ts B b c) : Kp ts B a c :=
 ⟨h.below.trans k.below, fun g t cs ht hb => k.blk g t cs ht (h.blk g t cs ht hb)⟩

/-- A slice whose elements, k cells each, read as the list xs; it lies below block B. R relates an element to its cells. -/
def Rd {α : Type} (w : World) (B k : Nat) (R : α → List Value → Prop) (A : Option Addr) (xs : List α) : Prop :=
 xs.length ≤ 9223372036854775807 ∧ (0 < xs.length → ∃ b off, A = some ⟨b, off, none⟩ ∧ b < B ∧
  ∀ i x, xs[i]? = some x → ∃ cs, cs.length = k ∧ R x cs ∧ ∀ j u, cs[j]? = some u → w.cell? ⟨b, off + i * k + j, none⟩ = some u)
section
variable {α : Type} {w w' : World} {B B' k : Nat} {R R' : α → List Value → Prop} {A : Option Addr} {xs : List α}
theorem Rd.nil : Rd w B k R A ([] : List α) := ⟨by simp, fun h => absurd h (by simp)⟩
theorem Rd.at_ (h : Rd w B k R A xs) {i : Nat} {x : α} (hx : xs[i]? = some x) :
  ∃ b off, A = some ⟨b, off, none⟩ ∧ b < B ∧ ∃ cs, cs.length = k ∧ R x cs ∧ ∀ j u, cs[j]? = some u → w.cell? ⟨b, off + i * k + j, none⟩ = some u := by
 have hl : i < xs.length := (List.getElem?_eq_some_iff.1 hx).1
 obtain ⟨b, off, e, hb, hc⟩ := h.2 (by omega)
 exact ⟨b, off, e, hb, hc i x hx⟩
theorem Rd.row {enc : α → List Value} {b off : Nat} (h : Rd w B k (fun x cs => cs = enc x) (some ⟨b, off, none⟩) xs) {i : Nat} {x : α} (hx : xs[i]? = some x) : ∀ j u, (enc x)[j]? = some u → w.cell? ⟨b, off + i * k + j, none⟩ = some u := by
 obtain ⟨b', off', e, _, cs, _, rfl, hc⟩ := h.at_ hx
 injection e with e
 injection e with e1 e2
 subst e1 e2
 exact hc
theorem Rd.keep (h : Rd w B k R A xs) (hR : ∀ x cs, R x cs → R' x cs) (hk : ∀ p : Addr, p.block < B → w'.cell? p = w.cell? p) : Rd w' B k R' A xs :=
 ⟨h.1, fun hn => by
  obtain ⟨b, off, e, hb, hc⟩ := h.2 hn
  refine ⟨b, off, e, hb, fun i x hx => ?_⟩
  obtain ⟨cs, h1, h2, h3⟩ := hc i x hx
  exact ⟨cs, h1, hR x cs h2, fun j u hu => (hk _ hb).trans (h3 j u hu)⟩⟩
theorem Rd.below (h : Rd w B k R A xs) (hb : Below B w w') : Rd w' B k R A xs := h.keep (fun _ _ h => h) fun _ hp => hb.cell hp
theorem Rd.belowR (h : Rd w B k R A xs) (hR : ∀ x cs, R x cs → R' x cs) (hb : Below B w w') : Rd w' B k R' A xs := h.keep hR fun _ hp => hb.cell hp
theorem Rd.more (h : Rd w B k R A xs) (hB : B ≤ B') : Rd w B' k R A xs :=
 ⟨h.1, fun hn => by
  obtain ⟨b, off, e, hb, hc⟩ := h.2 hn
  exact ⟨b, off, e, by omega, hc⟩⟩
theorem Rd.drewN (h : Rd w B k R A xs) (n : Nat) : Rd (w.drewN n) B k R A xs := h.keep (fun _ _ h => h) fun _ _ => rfl
theorem flat_at {enc : α → List Value} (hk : ∀ x, (enc x).length = k) : ∀ (xs : List α) (i : Nat) (x : α), xs[i]? = some x → ∀ j, j < k → (xs.flatMap enc)[i * k + j]? = (enc x)[j]?
 | [], i, x, h, _, _ => by simp at h
 | y :: ys, 0, x, h, j, hj => by
  simp at h; subst h
  simp [List.getElem?_append, hk, hj]
 | y :: ys, i + 1, x, h, j, hj => by
  have h' : ys[i]? = some x := by simpa using h
  have := flat_at hk ys i x h' j hj
  simp only [List.flatMap_cons]
  rw [List.getElem?_append_right (by rw [hk]; rw [Nat.succ_mul]; omega), hk, ← this]
  congr 1
  rw [Nat.succ_mul]; omega
theorem flat_len {enc : α → List Value} (hk : ∀ x, (enc x).length = k) (xs : List α) : (xs.flatMap enc).length = xs.length * k := by
 induction xs with
 | nil => simp
 | cons x xs ih => simp only [List.flatMap_cons, List.length_append, ih, hk, List.length_cons, Nat.succ_mul]; omega
/-- What the call has built by append reads as a list. -/
theorem Rd.of_own {enc : α → List Value} {base : Nat} {e : TypeId} {n c : Nat} (hk : ∀ x, (enc x).length = k) (h : w.ownsRow base e k (.slice A n c) xs.length (xs.flatMap enc)) :
  n = xs.length ∧ Rd w w.heap.size k (fun x cs => cs = enc x) A xs := by
 rcases h.2 with ⟨hv, h0⟩ | ⟨g, cap, cur, hv, hb, hh, hnc, hm, hs, htake⟩
 ·injection hv with h1 h2 h3
  subst h2
  have : xs = [] := List.eq_nil_of_length_eq_zero h0
  subst this
  exact ⟨rfl, Rd.nil⟩
 ·injection hv with h1 h2 h3
  subst h1 h2
  refine ⟨rfl, by unfold maxLen at hm; omega, fun _ => ⟨g, 0, rfl, (Array.getElem?_eq_some_iff.1 hh).1, fun i x hx => ⟨enc x, hk x, rfl, fun j u hu => ?_⟩⟩⟩
  have hj : j < k := by rw [← hk x]; exact (List.getElem?_eq_some_iff.1 hu).1
  have hil : i < xs.length := (List.getElem?_eq_some_iff.1 hx).1
  rw [cell_of_row w g _ cur e (0, 0) hh]
  have hf := flat_at hk xs i x hx j hj
  rw [hu, ← htake, List.getElem?_take] at hf
  split at hf
  ·simpa using hf
  ·cases hf
end
theorem new_cells (w : World) (cs : List Value) (t : TypeId) (j : Nat) (u : Value) (h : cs[j]? = some u) : (w.alloc (.cells cs.toArray t)).cell? ((⟨w.heap.size, 0, none⟩ : Addr).add j) = some u := by
 have hadd : (⟨w.heap.size, 0, none⟩ : Addr).add j = ⟨w.heap.size, j, none⟩ := by unfold Addr.add; split <;> simp_all
 rw [hadd]
 exact (Blk.new w t cs).at_ j h
theorem below_drewN {B : Nat} {a w : World} (h : Below B a w) (n : Nat) : Below B a (w.drewN n) := ⟨h.os, h.tape, h.output, h.size, h.block⟩
theorem take_snoc {α : Type} {xs : List α} {k : Nat} {x : α} (h : xs[k]? = some x) : xs.take (k + 1) = xs.take k ++ [x] := by
 obtain ⟨hl, rfl⟩ := List.getElem?_eq_some_iff.1 h
 rw [List.take_succ_eq_append_getElem hl]
theorem get_of_lt {α : Type} {xs : List α} {k : Nat} (h : k < xs.length) : ∃ x, xs[k]? = some x := ⟨xs[k], List.getElem?_eq_getElem h⟩
end Go.Proofs.YtbnimhmoffchdaaGreatDoor
/- A calculus for walks: frames known by a list of slots; rules for code, regions and loops; the operations' laws. Over any program. -/
namespace Go.Proofs.YtbnimhmoffchdaaGreatDoor
open Go.RowKit

abbrev Env := List (Nat × Value)
def eget : Env → Nat → Value
 | [], _ => undef
 | (k, v) :: l, i => match Nat.beq k i with
  | true => v
  | false => eget l i
def ehas : Env → Nat → Bool
 | [], _ => false
 | (k, _) :: l, i => match Nat.beq k i with
  | true => true
  | false => ehas l i
def eev (e : Env) : Operand → Value
 | .tmp t => eget e t
 | .const v => v
 | .global g => .pointer (some ⟨g, 0, none⟩)
 | .func f => .func (.func f) #[] #[]
def eknown (e : Env) : Operand → Bool
 | .tmp t => ehas e t
 | _ => true
def eall (e : Env) : List Operand → Bool
 | [] => true
 | x :: l => match eknown e x with
  | true => eall e l
  | false => false
theorem eall_mem {e : Env} : ∀ {l : List Operand}, eall e l = true → ∀ x ∈ l, eknown e x = true
 | [], _, x, hx => by cases hx
 | y :: l, h, x, hx => by
  unfold eall at h
  split at h
  ·rename_i hy
   rcases List.mem_cons.1 hx with rfl | hx
   ·exact hy
   ·exact eall_mem h x hx
  ·cases h

theorem eget_hit (i : Nat) (v : Value) (e : Env) : eget ((i, v) :: e) i = v := by unfold eget; rw [Nat.beq_refl]
theorem eget_miss {j i : Nat} (h : Nat.beq j i = false) (v : Value) (e : Env) : eget ((j, v) :: e) i = eget e i := by conv => lhs; unfold eget; rw [h]
theorem ehas_hit (i : Nat) (v : Value) (e : Env) : ehas ((i, v) :: e) i = true := by unfold ehas; rw [Nat.beq_refl]
theorem ehas_miss {j i : Nat} (h : Nat.beq j i = false) (v : Value) (e : Env) : ehas ((j, v) :: e) i = ehas e i := by conv => lhs; unfold ehas; rw [h]
/-- The frame a: n slots, no deferred call, and the slots that e names hold what e says. -/
structure Fr (n : Nat) (a : Act) (e : Env) : Prop where
 size : a.tmps.size = n
 defers : a.defers = []
 at_ : ∀ i, ehas e i = true → a.tmps.getD i undef = eget e i
theorem Fr.nil {n : Nat} {a : Act} {e : Env} (h : Fr n a e) : Fr n a [] := ⟨h.size, h.defers, fun i hi => by cases hi⟩
theorem Fr.eval {n : Nat} {a : Act} {e : Env} (h : Fr n a e) (x : Operand) (hx : eknown e x = true) : a.eval x = eev e x := by
 cases x with
 | tmp t => exact h.at_ t hx
 | const v => rfl
 | global g => rfl
 | func f => rfl
theorem Fr.put {n : Nat} {a : Act} {e : Env} (h : Fr n a e) {d : Nat} (hd : d < n) (v : Value) : Fr n (a.put (some d) v) ((d, v) :: e) := by
 refine ⟨by simp [Act.put, h.size], by simp [Act.put, h.defers], fun i hi => ?_⟩
 simp only [Act.put, Array.getD_eq_getD_getElem?]
 unfold eget
 unfold ehas at hi
 by_cases e1 : d = i
 ·subst e1
  rw [Array.getElem?_setIfInBounds_self_of_lt (by rw [h.size]; exact hd)]
  rw [Nat.beq_refl]; rfl
 ·have : Nat.beq d i = false := by cases hb : Nat.beq d i with
   | false => rfl
   | true => exact absurd (Nat.eq_of_beq_eq_true hb) e1
  rw [this] at hi ⊢
  rw [Array.getElem?_setIfInBounds_ne e1]
  have := h.at_ i hi
  rwa [Array.getD_eq_getD_getElem?] at this
theorem Fr.put_none {n : Nat} {a : Act} {e : Env} (h : Fr n a e) (v : Value) : Fr n (a.put none v) e := h
/-- All that e says, e' says too. -/
def Sub (e e' : Env) : Prop := ∀ n a, Fr n a e → Fr n a e'
theorem sub_nil {e : Env} : Sub e [] := fun _ _ h => h.nil
theorem sub_cons {e e' : Env} {i : Nat} {v : Value} (hk : ehas e i = true) (hv : eget e i = v) (h : Sub e e') : Sub e ((i, v) :: e') := fun n a hf => by
 have hf' := h n a hf
 refine ⟨hf'.size, hf'.defers, fun j hj => ?_⟩
 unfold eget
 unfold ehas at hj
 cases hb : Nat.beq i j with
 | true =>
  obtain rfl := Nat.eq_of_beq_eq_true hb
  rw [hf.at_ i hk, hv]
 | false => rw [hb] at hj; exact hf'.at_ j hj
theorem Sub.refl (e : Env) : Sub e e := fun _ _ h => h
theorem Sub.trans {a b c : Env} (h : Sub a b) (k : Sub b c) : Sub a c := fun n x hf => k n x (h n x hf)

/-- Code from a frame that e describes. -/
def wc (P : Program) (n : Nat) (c : Code) (Q : Exit → Act → World → Prop) (e : Env) (w : World) : Prop := ∀ a, Fr n a e → c.wp P Q a w
/-- What is asked behind an exit. -/
def wx (n : Nat) (Q : Exit → Act → World → Prop) (x : Exit) (e : Env) (w : World) : Prop := ∀ a, Fr n a e → Q x a w
def wl (P : Program) (n : Nat) (ops : Array Oper) (Q : Exit → Act → World → Prop) (l : List Oper) (e : Env) (w : World) : Prop := ∀ a, Fr n a e → wpList P ops Q l a w
section
variable {P : Program} {n : Nat} {Q : Exit → Act → World → Prop} {e e' : Env} {w : World}
theorem wc_seq {x y : Code} (h : wc P n x (Exit.then (y.wp P Q) Q) e w) : wc P n (.seq x y) Q e w := fun a hf => wp_seq (h a hf)
theorem wc_region {id : Nat} {l : List Oper} (h : wl P n l.toArray Q l e w) : wc P n (.region id l.toArray false) Q e w := fun a hf => wp_region_lit (h a hf)
theorem wc_cond {c : Operand} {x y : Code} {t : Bool} (hk : eknown e c = true) (hc : eev e c = .bool t) (ht : t = true → wc P n x Q e w) (hf : t = false → wc P n y Q e w) : wc P n (.cond c x y) Q e w :=
 fun a hfr => wp_cond_split ((hfr.eval c hk).trans hc) (fun h => ht h a hfr) (fun h => hf h a hfr)
theorem wc_cond_t {c : Operand} {x y : Code} (hk : eknown e c = true) (hc : eev e c = .bool true) (h : wc P n x Q e w) : wc P n (.cond c x y) Q e w :=
 fun a hfr => wp_cond_true ((hfr.eval c hk).trans hc) (h a hfr)
theorem wc_cond_f {c : Operand} {x y : Code} (hk : eknown e c = true) (hc : eev e c = .bool false) (h : wc P n y Q e w) : wc P n (.cond c x y) Q e w :=
 fun a hfr => wp_cond_false ((hfr.eval c hk).trans hc) (h a hfr)
theorem wc_block {id : Nat} {c : Code} (h : wc P n c (Exit.inBlock id Q) e w) : wc P n (.block id c) Q e w := fun a hf => wp_block (h a hf)
theorem wc_skip (h : wx n Q .normal e w) : wc P n .skip Q e w := fun a hf => wp_skip (h a hf)
theorem wc_exit {id : Nat} (h : wx n Q (.exit id) e w) : wc P n (.exit id) Q e w := fun a hf => wp_exit (h a hf)
theorem wc_ret (h : wx n Q .ret e w) : wc P n .ret Q e w := fun a hf => wp_ret (h a hf)
theorem wx_thenE {y : Act → World → Prop} {i : Nat} (h : wx n Q (.exit i) e w) : wx n (Exit.then y Q) (.exit i) e w := h
theorem wx_thenR {y : Act → World → Prop} (h : wx n Q .ret e w) : wx n (Exit.then y Q) .ret e w := h
theorem wx_inN {i : Nat} (h : wx n Q .normal e w) : wx n (Exit.inBlock i Q) .normal e w := h
theorem wx_here {i : Nat} (h : wx n Q .normal e w) : wx n (Exit.inBlock i Q) (.exit i) e w := fun a hf => by simp only [Exit.inBlock, if_true]; exact h a hf
theorem wx_pass {i j : Nat} (hij : j ≠ i) (h : wx n Q (.exit j) e w) : wx n (Exit.inBlock i Q) (.exit j) e w := fun a hf => by simp only [Exit.inBlock, hij, if_false]; exact h a hf
theorem wx_next {y : Code} {Q' : Exit → Act → World → Prop} (h : wc P n y Q' e w) : wx n (Exit.then (y.wp P Q') Q) .normal e w := h
/-- A loop: s is what the rounds carry; E s its frame, H s its world; m goes down. -/
theorem wc_loop {σ : Type} {c : Code} (E : σ → Env) (H : σ → World → Prop) (m : σ → Nat) (s : σ) (hE : Sub e (E s)) (hH : H s w)
  (round : ∀ s w, H s w → wc P n c (Exit.then (fun a' w' => ∃ s', Fr n a' (E s') ∧ H s' w' ∧ m s' < m s) Q) (E s) w) : wc P n (.loop c) Q e w := by
 intro a hf b k cs
 have key : ∀ N s a w, m s = N → Fr n a (E s) → H s w → ∃ x a' w', Q x a' w' ∧ Arrives P (lone (b.at a (.code c :: .inLoop c :: k)) cs w) b k cs x a' w' := by
  intro N
  induction N using Nat.strongRecOn with
  | _ N ih =>
   intro s a w hN hfr hH
   obtain ⟨x, a1, w1, hq, harr⟩ := round s w hH a hfr b (.inLoop c :: k) cs
   cases x with
   | normal =>
    obtain ⟨s', hf', hH', hlt⟩ := hq
    obtain ⟨x2, a2, w2, hq2, harr2⟩ := ih (m s') (hN ▸ hlt) s' a1 w1 rfl hf' hH'
    exact ⟨x2, a2, w2, hq2, .of_steps (Steps.trans harr (.one step_inLoop)) harr2⟩
   | exit id => exact ⟨_, a1, w1, hq, .pass (x := .inLoop c) rfl (fun _ _ => .inl (by simp)) harr⟩
   | goto l => exact ⟨_, a1, w1, hq, .pass (x := .inLoop c) rfl (fun _ _ => .inl (by simp)) harr⟩
   | ret => exact ⟨_, a1, w1, hq, .pass (x := .inLoop c) rfl (fun _ _ => .inl (by simp)) harr⟩
   | panic ch => exact ⟨_, a1, w1, hq, .pass (x := .inLoop c) rfl (fun _ _ => .inl (by simp)) harr⟩
   | outgrown => exact ⟨_, a1, w1, hq, .pass (x := .inLoop c) rfl (fun _ _ => .inl (by simp)) harr⟩
 obtain ⟨x, a', w', hq, harr⟩ := key _ s a w rfl (hE n a hf) hH
 exact ⟨x, a', w', hq, .of_steps (.one step_loop) harr⟩
theorem wx_round {σ : Type} {E : σ → Env} {H : σ → World → Prop} {m : σ → Nat} {s : σ} (s' : σ) (hE : Sub e (E s')) (hH : H s' w) (hm : m s' < m s) :
  wx n (Exit.then (fun a' w' => ∃ s', Fr n a' (E s') ∧ H s' w' ∧ m s' < m s) Q) .normal e w := fun a hf => ⟨s', hE n a hf, hH, hm⟩
def argEnv : Nat → List Value → Env
 | _, [] => []
 | i, v :: l => (i, v) :: argEnv (i + 1) l
theorem argEnv_spec : ∀ (l : List Value) (k j : Nat), ehas (argEnv k l) j = true → ∃ i, j = k + i ∧ l[i]? = some (eget (argEnv k l) j)
 | [], _, _, h => by cases h
 | v :: l, k, j, h => by
  unfold argEnv ehas at h
  unfold argEnv eget
  cases hb : Nat.beq k j with
  | true =>
   obtain rfl := Nat.eq_of_beq_eq_true hb
   exact ⟨0, rfl, rfl⟩
  | false =>
   rw [hb] at h
   obtain ⟨i, h1, h2⟩ := argEnv_spec l (k + 1) j h
   exact ⟨i + 1, by omega, by simpa using h2⟩
theorem calls_wc {f : FuncId} {fn : Func} {c : Code} {args : List Value} {R : Ending → World → Prop} (hf : P.funcs[f]? = some fn) (hb : fn.body = some c) (hn : fn.ntmps = n) (hl : args.length ≤ n)
  (h : wc P n c (bodyPost P fn R) (argEnv 0 args) w) : Calls P f args.toArray w R := by
 refine calls_of_wp hf hb (h _ ⟨?_, rfl, fun i hi => ?_⟩)
 ·simp [hn]; omega
 ·obtain ⟨j, rfl, hj⟩ := argEnv_spec args 0 i hi
  rw [Nat.zero_add] at hj ⊢
  simp only [Array.getD_eq_getD_getElem?]
  rw [Array.getElem?_append_left (by simpa using (List.getElem?_eq_some_iff.1 hj).1)]
  simp [hj]
theorem wx_ret1 {fn : Func} {R : Ending → World → Prop} {t : Nat} {v : Value} (hr : fn.results = #[.tmp t]) (hk : ehas e t = true) (hv : eget e t = v) (h : R (.returned v) w) : wx n (bodyPost P fn R) .ret e w := fun a hf =>
 bodyPost_ret (v := v) (by rw [results_tmp hr, hf.at_ t hk, hv]) hf.defers h
theorem wx_ret2 {fn : Func} {R : Ending → World → Prop} {t u : Nat} {v v' : Value} (hr : fn.results = #[.tmp t, .tmp u]) (hk : ehas e t = true) (hv : eget e t = v) (hk' : ehas e u = true) (hv' : eget e u = v') (h : R (.returned (.tuple #[v, v'])) w) : wx n (bodyPost P fn R) .ret e w := fun a hf =>
 bodyPost_ret (v := .tuple #[v, v']) (by rw [results_tmp2 hr, hf.at_ t hk, hf.at_ u hk', hv, hv']) hf.defers h
end

/-! ### Operations -/
def plainOp : Op → Bool
 | .select _ _ => false
 | _ => true
def gOk (ops : Array Oper) (e : Env) (o : Oper) (b : Bool) : Bool :=
 match o.guard with
 | none => b
 | some (j, want) => match (ops[j]?).bind (·.dst) with
  | none => false
  | some t => match ehas e t with
   | false => false
   | true => match eget e t with
    | .bool c => match c, want with
     | true, true => b
     | false, false => b
     | _, _ => !b
    | .tuple _ => !b
    | _ => false
theorem gOk_wanted {ops : Array Oper} {e : Env} {o : Oper} {b : Bool} {n : Nat} {a : Act} (hf : Fr n a e) (h : gOk ops e o b = true) : Region.wanted o (yielded ops a.tmps) = b := by
 unfold gOk at h
 unfold Region.wanted
 cases hg : o.guard with
 | none => rw [hg] at h; simp only at h ⊢; exact h.symm
 | some p =>
  obtain ⟨j, want⟩ := p
  rw [hg] at h
  simp only at h ⊢
  cases ht : (ops[j]?).bind (·.dst) with
  | none => rw [ht] at h; cases h
  | some t =>
   rw [ht] at h
   simp only at h
   cases hh : ehas e t with
   | false => rw [hh] at h; cases h
   | true =>
    rw [hh] at h
    simp only at h
    have hv := hf.at_ t hh
    unfold yielded
    rw [ht]
    simp only [Option.bind_some]
    rw [Array.getD_eq_getD_getElem?] at hv
    cases ha : a.tmps[t]? with
    | none =>
     rw [ha] at hv
     simp only [Option.getD_none] at hv
     rw [← hv] at h
     cases b with
     | false => simp
     | true => cases h
    | some u =>
     rw [ha] at hv
     simp only [Option.getD_some] at hv
     subst hv
     revert h
     generalize eget e t = u
     intro h
     cases u with
     | bool c => cases c <;> cases want <;> cases b <;> simp_all
     | tuple c => cases b <;> simp_all
     | _ => exact absurd h (by simp)
/-- One look at an operation: its slot is d, all that it reads is known, its guard says b. -/
def chk (ops : Array Oper) (e : Env) (n : Nat) (o : Oper) (d : Nat) (b : Bool) : Bool :=
 match o.dst with
 | none => false
 | some d' => Nat.beq d' d && Nat.blt d n && (plainOp o.op && (gOk ops e o b && (match b with | true => eall e o.op.operands.toList | false => true)))
def chk0 (ops : Array Oper) (e : Env) (o : Oper) : Bool :=
 match o.dst with
 | some _ => false
 | none => plainOp o.op && (gOk ops e o true && eall e o.op.operands.toList)
section
variable {P : Program} {n : Nat} {Q : Exit → Act → World → Prop} {e e' : Env} {w : World} {ops : Array Oper} {o : Oper} {rest : List Oper}
theorem chk_spec {d : Nat} {b : Bool} (h : chk ops e n o d b = true) : o.dst = some d ∧ d < n ∧ plainOp o.op = true ∧ gOk ops e o b = true ∧ (b = true → eall e o.op.operands.toList = true) := by
 unfold chk at h
 split at h
 ·cases h
 ·rename_i d' hd
  simp only [Bool.and_eq_true] at h
  obtain ⟨⟨h1, h2⟩, h3, h4, h5⟩ := h
  obtain rfl := Nat.eq_of_beq_eq_true h1
  exact ⟨hd, by simpa using h2, h3, h4, fun hb => by subst hb; exact h5⟩
theorem chk0_spec (h : chk0 ops e o = true) : o.dst = none ∧ plainOp o.op = true ∧ gOk ops e o true = true ∧ eall e o.op.operands.toList = true := by
 unfold chk0 at h
 split at h
 ·cases h
 ·rename_i hd
  simp only [Bool.and_eq_true] at h
  exact ⟨hd, h.1, h.2.1, h.2.2⟩
/-- The operation yields v and leaves the world alone. -/
def OpV (P : Program) (e : Env) (w : World) (o : Oper) (v : Value) : Prop := (execOp (eev e) o).run P w = .ok (.value v) w
theorem exec_fr {a : Act} (hf : Fr n a e) (hs : plainOp o.op = true) (hk : eall e o.op.operands.toList = true) : execOp a.eval o = execOp (eev e) o :=
 execOp_congr o (fun cs b h => by rw [h] at hs; cases hs) fun x hx => hf.eval x (eall_mem hk x (Array.mem_toList_iff.2 hx))
theorem wl_nil (h : wx n Q .normal e w) : wl P n ops Q [] e w := fun a hf => wpList_nil (h a hf)
/-- Any operation that runs to a value in another world. -/
theorem wl_run (d : Nat) {v : Value} {w' : World} (hc : chk ops e n o d true = true)
  (hv : (execOp (eev e) o).run P w = .ok (.value v) w') (next : wl P n ops Q rest ((d, v) :: e) w') : wl P n ops Q (o :: rest) e w := fun a hf => by
 obtain ⟨hd, hn, hs, hg, hk⟩ := chk_spec hc
 refine wpList_step fun K hK => ?_
 rw [if_pos (gOk_wanted hf hg)]
 unfold Oper.wp
 rw [exec_fr hf hs (hk rfl), hv]
 simp only [Oper.upon]
 rw [hd]
 exact hK _ _ (next _ (hf.put hn v))
theorem wl_new (d : Nat) {v : Value} {w' : World} (hc : chk ops e n o d true = true)
  (hv : (execOp (eev e) o).run P w = .ok (.value v) w') (next : ∀ w1, w1 = w' → wl P n ops Q rest ((d, v) :: e) w1) : wl P n ops Q (o :: rest) e w := wl_run d hc hv (next _ rfl)
theorem wl_val (d : Nat) {v : Value} (hc : chk ops e n o d true = true) (hv : OpV P e w o v) (next : wl P n ops Q rest ((d, v) :: e) w) : wl P n ops Q (o :: rest) e w := wl_run d hc hv next
theorem wl_bool (d : Nat) {b : Bool} (hc : chk ops e n o d true = true) (hv : OpV P e w o (.bool b)) (ht : b = true → wl P n ops Q rest ((d, .bool true) :: e) w) (hf : b = false → wl P n ops Q rest ((d, .bool false) :: e) w) : wl P n ops Q (o :: rest) e w := by
 cases b
 ·exact wl_val d hc hv (hf rfl)
 ·exact wl_val d hc hv (ht rfl)
theorem wl_skip (d : Nat) (hc : chk ops e n o d false = true)
  (next : wl P n ops Q rest ((d, undef) :: e) w) : wl P n ops Q (o :: rest) e w := fun a hf => by
 obtain ⟨hd, hn, hs, hg, hk⟩ := chk_spec hc
 refine wpList_step fun K hK => ?_
 rw [if_neg (by rw [gOk_wanted hf hg]; decide), hd]
 exact hK _ _ (next _ (hf.put hn undef))
/-- A store: no slot. -/
theorem wl_do {w' : World} (hc : chk0 ops e o = true) (hv : (execOp (eev e) o).run P w = .ok .skip w') (next : wl P n ops Q rest e w') : wl P n ops Q (o :: rest) e w := fun a hf => by
 obtain ⟨hd, hs, hg, hk⟩ := chk0_spec hc
 refine wpList_step fun K hK => ?_
 rw [if_pos (gOk_wanted hf hg)]
 unfold Oper.wp
 rw [exec_fr hf hs hk, hv]
 simp only [Oper.upon]
 rw [hd]
 exact hK _ _ (next _ (hf.put_none undef))
/-- A call: every ending that R lets is a return. -/
theorem wl_call (d : Nat) {f : FuncId} {args : Array Value} {R : Ending → World → Prop} (hc : chk ops e n o d true = true)
  (hv : (execOp (eev e) o).run P w = .ok (.enter f args) w) (hR : Calls P f args w R) (next : ∀ x w', R x w' → ∃ v, x = .returned v ∧ wl P n ops Q rest ((d, v) :: e) w') : wl P n ops Q (o :: rest) e w := fun a hf => by
 obtain ⟨hd, hn, hs, hg, hk⟩ := chk_spec hc
 refine wpList_step fun K hK => ?_
 rw [if_pos (gOk_wanted hf hg)]
 unfold Oper.wp
 rw [exec_fr hf hs (hk rfl), hv]
 simp only [Oper.upon]
 refine hR.mono fun x w' hR => ?_
 obtain ⟨v, rfl, h⟩ := next x w' hR
 simp only
 rw [hd]
 exact hK _ _ (h _ (hf.put hn v))
end

/-! ### Cuts behind a region -/
/-- Of the first k entries of e, each is among the slots L or is not known behind them. -/
def dropOk (L : List Nat) : Nat → Env → Env → Bool
 | 0, _, _ => true
 | _ + 1, _, [] => true
 | k + 1, b, (i, _) :: e => (L.any (Nat.beq i) || !ehas b i) && dropOk L k b e
def eqs (e : Env) : List (Nat × Value) → Prop
 | [] => True
 | (i, v) :: l => eget e i = v ∧ eqs e l
def allHas (e : Env) : List (Nat × Value) → Bool
 | [] => true
 | (i, _) :: l => ehas e i && allHas e l
theorem drop_get (L : List Nat) : ∀ (k : Nat) (b e : Env), dropOk L k b e = true → e.drop k = b → ∀ i, L.any (Nat.beq i) = false → ehas b i = true → ehas e i = true ∧ eget e i = eget b i
 | 0, b, e, _, he, i, _, hb => by rw [List.drop_zero] at he; subst he; exact ⟨hb, rfl⟩
 | k + 1, b, [], _, he, i, _, hb => by rw [List.drop_nil] at he; subst he; exact ⟨hb, rfl⟩
 | k + 1, b, (j, v) :: e, hd, he, i, hL, hb => by
  unfold dropOk at hd
  simp only [Bool.and_eq_true, Bool.or_eq_true, Bool.not_eq_true'] at hd
  rw [List.drop_succ_cons] at he
  obtain ⟨h1, h2⟩ := drop_get L k b e hd.2 he i hL hb
  have hne : Nat.beq j i = false := by
   cases hj : Nat.beq j i with
   | false => rfl
   | true =>
    obtain rfl := Nat.eq_of_beq_eq_true hj
    rcases hd.1 with h | h
    ·rw [h] at hL; cases hL
    ·rw [h] at hb; cases hb
  rw [ehas_miss hne, eget_miss hne]
  exact ⟨h1, h2⟩
theorem has_append (O b : Env) (i : Nat) (h : ehas (O ++ b) i = true) : ((O.map (·.1)).any (Nat.beq i) = true ∧ ehas O i = true ∧ eget (O ++ b) i = eget O i) ∨ ((O.map (·.1)).any (Nat.beq i) = false ∧ ehas b i = true ∧ eget (O ++ b) i = eget b i) := by
 induction O with
 | nil => exact .inr ⟨rfl, h, rfl⟩
 | cons p O ih =>
  obtain ⟨j, v⟩ := p
  rw [List.cons_append] at h
  simp only [List.map_cons, List.any_cons, List.cons_append]
  cases hj : Nat.beq j i with
  | true =>
   obtain rfl := Nat.eq_of_beq_eq_true hj
   exact .inl ⟨by rw [Nat.beq_refl]; rfl, ehas_hit _ _ _, by rw [eget_hit, eget_hit]⟩
  | false =>
   rw [ehas_miss hj] at h
   rw [ehas_miss hj, eget_miss hj, eget_miss hj]
   have hij : Nat.beq i j = false := by
    cases h2 : Nat.beq i j with
    | false => rfl
    | true => obtain rfl := Nat.eq_of_beq_eq_true h2; rw [Nat.beq_refl] at hj; cases hj
   rcases ih h with ⟨a, b, c⟩ | ⟨a, b, c⟩
   ·exact .inl ⟨by rw [hij, a]; rfl, b, c⟩
   ·exact .inr ⟨by rw [hij, a]; rfl, b, c⟩
theorem eqs_get {e : Env} : ∀ {O : Env}, allHas e O = true → eqs e O → ∀ i, ehas O i = true → ehas e i = true ∧ eget e i = eget O i
 | [], _, _, i, h => by cases h
 | (j, v) :: O, ha, he, i, h => by
  unfold allHas at ha
  simp only [Bool.and_eq_true] at ha
  cases hj : Nat.beq j i with
  | true =>
   obtain rfl := Nat.eq_of_beq_eq_true hj
   rw [eget_hit]
   exact ⟨ha.1, he.1⟩
  | false =>
   rw [ehas_miss hj] at h
   rw [eget_miss hj]
   exact eqs_get ha.2 he.2 i h
/-- Behind k new entries: the slots O hold what they say, all else is as in b. -/
theorem sub_out {e b : Env} (k : Nat) (O : Env) (hb : e.drop k = b) (h1 : (dropOk (O.map (·.1)) k b e && allHas e O) = true) (h2 : eqs e O) : Sub e (O ++ b) := fun n a hf => by
 simp only [Bool.and_eq_true] at h1
 refine ⟨hf.size, hf.defers, fun i hi => ?_⟩
 rcases has_append O b i hi with ⟨_, h3, h4⟩ | ⟨h5, h3, h4⟩
 ·obtain ⟨h6, h7⟩ := eqs_get h1.2 h2 i h3
  rw [h4, ← h7]; exact hf.at_ i h6
 ·obtain ⟨h6, h7⟩ := drop_get _ k b e h1.1 hb i h5 h3
  rw [h4, ← h7]; exact hf.at_ i h6
def PostE (n : Nat) (e : Env) (w : World) : Exit → Act → World → Prop := fun x a w' => x = .normal ∧ w' = w ∧ Fr n a e
def PostS {σ : Type} (n : Nat) (E : σ → Env) (H : σ → World → Prop) : Exit → Act → World → Prop := fun x a w' => x = .normal ∧ ∃ s, Fr n a (E s) ∧ H s w'
section
variable {P : Program} {n : Nat} {Q : Exit → Act → World → Prop} {e e' : Env} {w : World} {ops : Array Oper} {o : Oper} {rest : List Oper} {K : Act → World → Prop} {id : Nat} {l : List Oper}
theorem leaf_s {σ : Type} {E : σ → Env} {H : σ → World → Prop} (s : σ) (h : Sub e (E s)) (hH : H s w) : wl P n ops (PostS n E H) [] e w := wl_nil fun a hf => ⟨rfl, s, h n a hf, hH⟩
theorem wc_cutS {σ : Type} (O : σ → Env) (H : σ → World → Prop) (h : wl P n l.toArray (PostS n (fun s => O s ++ e) H) l e w) (k : ∀ s w', H s w' → wx n (Exit.then K Q) .normal (O s ++ e) w') : wc P n (.region id l.toArray false) (Exit.then K Q) e w := fun a hf =>
 Code.wp_mono (fun x a w' ⟨hx, s, hfr, hH⟩ => by subst hx; exact k s w' hH a hfr) (wp_region_lit (h a hf))
end

/-! ### Regions that draw their order: one value in every world of the class C -/
def wq (P : Program) (n : Nat) (ops : Array Oper) (C : World → Prop) (K : Act → Prop) (l : List Oper) (e : Env) : Prop := ∀ a, Fr n a e → wpQuiet P ops C K l a
/-- w' is w after some draws. -/
def Dr (w w' : World) : Prop := ∃ m, w' = w.drewN m
theorem Dr.cell {w w' : World} (h : Dr w w') (p : Addr) : w'.cell? p = w.cell? p := by obtain ⟨m, rfl⟩ := h; rfl
theorem Dr.refl (w : World) : Dr w w := ⟨0, rfl⟩
theorem Dr.one (w : World) : Dr w w.drew := ⟨1, rfl⟩
theorem Dr.heap {w w' : World} (h : Dr w w') : w'.heap = w.heap := by obtain ⟨m, rfl⟩ := h; rfl
theorem wpQuiet_mono {P : Program} {ops : Array Oper} {C : World → Prop} {K K' : Act → Prop} : ∀ {l : List Oper} {a : Act}, wpQuiet P ops C K l a → (∀ a, K a → K' a) → wpQuiet P ops C K' l a
 | [], _, h, k => k _ h
 | o :: rest, a, h, k => by
  unfold wpQuiet at h ⊢
  split
  ·rename_i hw
   rw [if_pos hw] at h
   exact Oper.quiet_mono (fun a h => wpQuiet_mono h k) h
  ·rename_i hw
   rw [if_neg hw] at h
   exact wpQuiet_mono h k
section
variable {P : Program} {n : Nat} {Q : Exit → Act → World → Prop} {e e' : Env} {w : World} {ops : Array Oper} {o : Oper} {rest : List Oper} {C : World → Prop} {K : Act → Prop}
theorem wq_nil (h : ∀ a, Fr n a e → K a) : wq P n ops C K [] e := fun a hf => wpQuiet_nil (h a hf)
theorem wq_val (d : Nat) {v : Value} (hc : chk ops e n o d true = true) (hv : ∀ w, C w → OpV P e w o v) (next : wq P n ops C K rest ((d, v) :: e)) : wq P n ops C K (o :: rest) e := fun a hf => by
 obtain ⟨hd, hn, hs, hg, hk⟩ := chk_spec hc
 refine wpQuiet_step fun K' hK => ?_
 rw [if_pos (gOk_wanted hf hg)]
 refine ⟨v, fun w hw => ?_, hK _ (by rw [hd]; exact next _ (hf.put hn v))⟩
 unfold Oper.quietAt
 rw [exec_fr hf hs (hk rfl), hv w hw]
 exact ⟨rfl, rfl⟩
theorem wq_dec (d : Nat) {φ : Prop} [Decidable φ] (hc : chk ops e n o d true = true) (hv : ∀ w, C w → OpV P e w o (.bool (decide φ))) (ht : φ → wq P n ops C K rest ((d, .bool true) :: e)) (hf : ¬ φ → wq P n ops C K rest ((d, .bool false) :: e)) : wq P n ops C K (o :: rest) e := by
 by_cases h : φ
 ·rw [decide_eq_true h] at hv; exact wq_val d hc hv (ht h)
 ·rw [decide_eq_false h] at hv; exact wq_val d hc hv (hf h)
theorem wq_bool (d : Nat) {b : Bool} (hc : chk ops e n o d true = true) (hv : ∀ w, C w → OpV P e w o (.bool b)) (ht : b = true → wq P n ops C K rest ((d, .bool true) :: e)) (hf : b = false → wq P n ops C K rest ((d, .bool false) :: e)) : wq P n ops C K (o :: rest) e := by
 cases b
 ·exact wq_val d hc hv (hf rfl)
 ·exact wq_val d hc hv (ht rfl)
theorem wq_skip (d : Nat) (hc : chk ops e n o d false = true) (next : wq P n ops C K rest ((d, undef) :: e)) : wq P n ops C K (o :: rest) e := fun a hf => by
 obtain ⟨hd, hn, hs, hg, hk⟩ := chk_spec hc
 refine wpQuiet_step fun K' hK => ?_
 rw [if_neg (by rw [gOk_wanted hf hg]; decide), hd]
 exact hK _ (next _ (hf.put hn undef))
/-- A call that returns v in every world of the class and leaves one of it. -/
theorem wq_call (d : Nat) {v : Value} {f : FuncId} {args : Array Value} (hc : chk ops e n o d true = true) (hv : ∀ w, C w → (execOp (eev e) o).run P w = .ok (.enter f args) w)
  (hR : ∀ w, C w → Calls P f args w fun x w' => x = .returned v ∧ C w') (next : wq P n ops C K rest ((d, v) :: e)) : wq P n ops C K (o :: rest) e := fun a hf => by
 obtain ⟨hd, hn, hs, hg, hk⟩ := chk_spec hc
 refine wpQuiet_step fun K' hK => ?_
 rw [if_pos (gOk_wanted hf hg)]
 refine ⟨v, fun w hw => ?_, hK _ (by rw [hd]; exact next _ (hf.put hn v))⟩
 unfold Oper.quietAt
 rw [exec_fr hf hs (hk rfl), hv w hw]
 exact ⟨rfl, hR w hw⟩
theorem wq_callb (d : Nat) {b : Bool} {f : FuncId} {args : Array Value} (hc : chk ops e n o d true = true) (hv : ∀ w, C w → (execOp (eev e) o).run P w = .ok (.enter f args) w)
  (hR : ∀ w, C w → Calls P f args w fun x w' => x = .returned (.bool b) ∧ C w') (ht : b = true → wq P n ops C K rest ((d, .bool true) :: e)) (hf : b = false → wq P n ops C K rest ((d, .bool false) :: e)) : wq P n ops C K (o :: rest) e := by
 cases b
 ·exact wq_call d hc hv hR (hf rfl)
 ·exact wq_call d hc hv hR (ht rfl)
theorem leaf_q (h : Sub e e') : wq P n ops C (fun a => Fr n a e') [] e := wq_nil fun a hf => h n a hf
theorem wc_drawn {id : Nat} {l : List Oper} {K' : Act → World → Prop} (C : World → Prop) (O : Env) (hm : P.follows .mixedOrders = true) (hB : Region.lexB .any l.toArray = true) (hC : C w.drew)
  (h : wq P n l.toArray C (fun a => Fr n a (O ++ e)) l e) (k : ∀ w', C w' → wx n (Exit.then K' Q) .normal (O ++ e) w') : wc P n (.region id l.toArray true) (Exit.then K' Q) e w := fun a hf =>
 wp_region_quiet (C := C) hm hB hC (by
  have := h a hf
  have e1 : wpQuiet P l.toArray C (fun a => Fr n a (O ++ e)) l.toArray.toList a := by simpa using this
  exact wpQuiet_mono e1 fun a' hf' w' hw' => k w' hw' a' hf')
end
end Go.Proofs.YtbnimhmoffchdaaGreatDoor
/- The operations' laws, over any program: what each yields from operands that are known. -/
namespace Go.Proofs.YtbnimhmoffchdaaGreatDoor
open Go.RowKit

def fOff (P : Program) (t : TypeId) (k : Nat) : Option Nat :=
 match P.underlying t with
 | some (.struct fs) => match fs[k]? with
  | some f => match P.info? f.type with
   | some i => if i.size = 0 then none else some f.offset
   | none => none
  | none => none
 | _ => none
def oneCell (P : Program) (t : TypeId) : Bool :=
 match P.underlying t with
 | some (.struct _) => false
 | some (.array _ _) => false
 | some _ => true
 | none => false
def elemSz (P : Program) (t : TypeId) : Option Nat :=
 match P.underlying t with
 | some (.slice x) => (P.info? x).map (·.size)
 | _ => none
def isSliceT (P : Program) (t : TypeId) : Bool :=
 match P.underlying t with
 | some (.slice _) => true
 | _ => false
/-- A type of k cells, a struct or an array. -/
def aggSz (P : Program) (t : TypeId) : Option Nat :=
 match P.underlying t with
 | some (.struct _) => (P.info? t).map (·.size)
 | some (.array _ _) => (P.info? t).map (·.size)
 | _ => none
section
variable {P : Program} {e : Env} {w : World} {d : Option Tmp} {ty : TypeId} {ps : String} {af : Array Edge} {g : Option (Nat × Bool)}
theorem op_move {x : Operand} {v : Value} (h : eev e x = v) : OpV P e w ⟨d, .move x, ty, ps, af, g⟩ v := by simp [OpV, execOp, h]
theorem op_assign {x : Operand} {v : Value} (h : eev e x = v) : OpV P e w ⟨d, .assign x, ty, ps, af, g⟩ v := by simp [OpV, execOp, h]
theorem op_pick_t {c x y : Operand} {v : Value} (hc : eev e c = .bool true) (h : eev e x = v) : OpV P e w ⟨d, .pick c x y, ty, ps, af, g⟩ v := by simp [OpV, execOp, hc, h, asBool]
theorem op_pick_f {c x y : Operand} {v : Value} (hc : eev e c = .bool false) (h : eev e y = v) : OpV P e w ⟨d, .pick c x y, ty, ps, af, g⟩ v := by simp [OpV, execOp, hc, h, asBool]
theorem op_field {t : TypeId} {x : Operand} {k o m : Nat} {b : Nat} (hx : eev e x = .pointer (some ⟨b, o, none⟩)) (hf : fOff P t k = some m) : OpV P e w ⟨d, .fieldAddr t x k, ty, ps, af, g⟩ (.pointer (some ⟨b, o + m, none⟩)) := by
 unfold fOff at hf
 split at hf
 ·rename_i fs hu
  split at hf
  ·rename_i f hfs
   split at hf
   ·rename_i i hi
    split at hf
    ·cases hf
    ·rename_i hz
     injection hf with hf
     subst hf
     simp only [OpV, execOp, Instr.fieldAt, hx]
     by_cases h0 : f.offset = 0
     ·simp [run_underlying hu, hfs, Instr.sureAddr, fieldPlace, sizeOf, typeInfo, hi, hz, Addr.add, h0]
     ·simp [run_underlying hu, hfs, Instr.sureAddr, fieldPlace, sizeOf, typeInfo, hi, hz, Addr.add, h0]
   ·cases hf
  ·cases hf
 ·cases hf
theorem op_field0 {t : TypeId} {x : Operand} {k o : Nat} {b : Nat} (hx : eev e x = .pointer (some ⟨b, o, none⟩)) (hf : fOff P t k = some 0) : OpV P e w ⟨d, .fieldAddr t x k, ty, ps, af, g⟩ (.pointer (some ⟨b, o, none⟩)) := op_field hx hf
theorem op_fieldL {t : TypeId} {x : Operand} {f o m k : Nat} {b : Nat} (hx : eev e x = .pointer (some ⟨b, o, none⟩)) (hf : fOff P t f = some m) (hk : o + m = k) : OpV P e w ⟨d, .fieldAddr t x f, ty, ps, af, g⟩ (.pointer (some ⟨b, k, none⟩)) := by
 subst hk; exact op_field hx hf
theorem op_load {t : TypeId} {x : Operand} {p : Addr} {v : Value} (hx : eev e x = .pointer (some p)) (h1 : oneCell P t = true) (hc : w.cell? p = some v) : OpV P e w ⟨d, .load t x, ty, ps, af, g⟩ v := by
 unfold oneCell at h1
 split at h1
 ·cases h1
 ·cases h1
 ·rename_i dd n1 n2 hu
  simp only [OpV, execOp, Instr.loadAt, hx]
  have : (isAgg t).run P w = .ok false w := by
   unfold isAgg
   simp only [Sem.run_bind, run_underlying hu, Result.andThen]
   rfl
  simp [Instr.sureAddr, loadVar, this, hc]
 ·cases h1
theorem op_loadA {t : TypeId} {x : Operand} {p : Addr} {cs : List Value} (hx : eev e x = .pointer (some p)) (hs : aggSz P t = some cs.length) (hc : ∀ j v, cs[j]? = some v → w.cell? (p.add j) = some v) : OpV P e w ⟨d, .load t x, ty, ps, af, g⟩ (.agg cs.toArray) := by
 have h2 : (isAgg t).run P w = .ok true w ∧ (P.info? t).map (·.size) = some cs.length := by
  unfold aggSz at hs
  split at hs
  ·rename_i fs hu
   exact ⟨by unfold isAgg; simp [run_underlying hu], hs⟩
  ·rename_i a b hu
   exact ⟨by unfold isAgg; simp [run_underlying hu], hs⟩
  ·cases hs
 cases hi : P.info? t with
 | none => rw [hi] at h2; cases h2.2
 | some i =>
  have hi2 : i.size = cs.length := by have := h2.2; rw [hi] at this; simpa using this
  simp only [OpV, execOp, Instr.loadAt, hx]
  simp [Instr.sureAddr, loadVar, h2.1, sizeOf, typeInfo, hi, hi2, run_loadCells_list w p cs hc]
theorem op_loadR {t : TypeId} {x : Operand} {b o : Nat} (cs : List Value) (hx : eev e x = .pointer (some ⟨b, o, none⟩)) (hs : aggSz P t = some cs.length) (hc : ∀ j v, cs[j]? = some v → w.cell? ⟨b, o + j, none⟩ = some v) : OpV P e w ⟨d, .load t x, ty, ps, af, g⟩ (.agg cs.toArray) :=
 op_loadA hx hs fun j v hv => by
  have : (⟨b, o, none⟩ : Addr).add j = ⟨b, o + j, none⟩ := by unfold Addr.add; split <;> simp_all
  rw [this]; exact hc j v hv
theorem op_len {t : TypeId} {x : Operand} {A : Option Addr} {l c : Nat} (hx : eev e x = .slice A l c) (ht : isSliceT P t = true) : OpV P e w ⟨d, .call ⟨.builtin .len, #[x], #[t]⟩, ty, ps, af, g⟩ (.int .i64 l) := by
 unfold isSliceT at ht
 split at ht
 ·rename_i E hu
  simp [OpV, execOp, resolve, invoke, builtin, Builtin.len_, hx, run_underlying hu, goInt]
 ·cases ht
theorem op_index {t : TypeId} {x ix : Operand} {b o l c sz i : Nat} (hx : eev e x = .slice (some ⟨b, o, none⟩) l c) (hi : eev e ix = .int .i64 (i : Int)) (hs : elemSz P t = some sz) (hl : i < l) : OpV P e w ⟨d, .indexAddr t x ix, ty, ps, af, g⟩ (.pointer (some ⟨b, o + i * sz, none⟩)) := by
 unfold elemSz at hs
 split at hs
 ·rename_i E hu
  cases hE : P.info? E with
  | none => rw [hE] at hs; cases hs
  | some inf =>
   have hsz : inf.size = sz := by rw [hE] at hs; simpa using hs
   simp only [OpV, execOp, Instr.indexAt, hx, hi]
   by_cases h0 : i * sz = 0
   ·simp [asIntOf, run_underlying hu, sizeOf, typeInfo, hE, hsz, hl, Addr.add, h0]
   ·simp [asIntOf, run_underlying hu, sizeOf, typeInfo, hE, hsz, hl, Addr.add, h0]
 ·cases hs
theorem op_indexz {t : TypeId} {x ix : Operand} {b l c sz i : Nat} (hx : eev e x = .slice (some ⟨b, 0, none⟩) l c) (hi : eev e ix = .int .i64 (i : Int)) (hs : elemSz P t = some sz) (hl : i < l) : OpV P e w ⟨d, .indexAddr t x ix, ty, ps, af, g⟩ (.pointer (some ⟨b, i * sz, none⟩)) := by
 have := op_index (P := P) (w := w) (d := d) (ty := ty) (ps := ps) (af := af) (g := g) hx hi hs hl
 rwa [Nat.zero_add] at this
theorem op_index1z {t : TypeId} {x ix : Operand} {b l c i : Nat} (hx : eev e x = .slice (some ⟨b, 0, none⟩) l c) (hi : eev e ix = .int .i64 (i : Int)) (hs : elemSz P t = some 1) (hl : i < l) : OpV P e w ⟨d, .indexAddr t x ix, ty, ps, af, g⟩ (.pointer (some ⟨b, i, none⟩)) := by
 have := op_indexz (P := P) (w := w) (d := d) (ty := ty) (ps := ps) (af := af) (g := g) hx hi hs hl
 rwa [Nat.mul_one] at this
theorem op_indexI {t : TypeId} {x ix : Operand} {b o l c sz : Nat} {i : Int} (hx : eev e x = .slice (some ⟨b, o, none⟩) l c) (hi : eev e ix = .int .i64 i) (hs : elemSz P t = some sz) (h0 : 0 ≤ i) (hl : i < l) : OpV P e w ⟨d, .indexAddr t x ix, ty, ps, af, g⟩ (.pointer (some ⟨b, o + i.toNat * sz, none⟩)) := by
 obtain ⟨k, rfl⟩ := Int.eq_ofNat_of_zero_le h0
 exact op_index hx hi hs (by omega)
/-- An index that is a literal. -/
theorem op_indexK {t : TypeId} {x ix : Operand} {b o l c sz : Nat} (i : Nat) {j : Int} {r : Nat} (hx : eev e x = .slice (some ⟨b, o, none⟩) l c) (hi : eev e ix = .int .i64 j) (hj : (i : Int) = j) (hs : elemSz P t = some sz) (hl : i < l) (hr : o + i * sz = r) : OpV P e w ⟨d, .indexAddr t x ix, ty, ps, af, g⟩ (.pointer (some ⟨b, r, none⟩)) := by
 subst hj hr; exact op_index hx hi hs hl
section
variable {t t' : TypeId} {x y : Operand} {a b : Int}
theorem op_lss (hx : eev e x = .int .i64 a) (hy : eev e y = .int .i64 b) : OpV P e w ⟨d, .binOp .lss t x y t', ty, ps, af, g⟩ (.bool (decide (a < b))) := by simp [OpV, execOp, hx, hy, eqGuard, binOp, Op.intCmp]
theorem op_leq (hx : eev e x = .int .i64 a) (hy : eev e y = .int .i64 b) : OpV P e w ⟨d, .binOp .leq t x y t', ty, ps, af, g⟩ (.bool (decide (a ≤ b))) := by simp [OpV, execOp, hx, hy, eqGuard, binOp, Op.intCmp]
theorem op_gtr (hx : eev e x = .int .i64 a) (hy : eev e y = .int .i64 b) : OpV P e w ⟨d, .binOp .gtr t x y t', ty, ps, af, g⟩ (.bool (decide (b < a))) := by simp [OpV, execOp, hx, hy, eqGuard, binOp, Op.intCmp]
theorem op_geq (hx : eev e x = .int .i64 a) (hy : eev e y = .int .i64 b) : OpV P e w ⟨d, .binOp .geq t x y t', ty, ps, af, g⟩ (.bool (decide (b ≤ a))) := by simp [OpV, execOp, hx, hy, eqGuard, binOp, Op.intCmp]
theorem op_eql (hx : eev e x = .int .i64 a) (hy : eev e y = .int .i64 b) : OpV P e w ⟨d, .binOp .eql t x y t', ty, ps, af, g⟩ (.bool (decide (a = b))) := by
 have : (a == b) = decide (a = b) := by rw [Bool.eq_iff_iff]; simp
 simp [OpV, execOp, hx, hy, eqGuard, binOp, Op.intCmp, this]
theorem op_neq (hx : eev e x = .int .i64 a) (hy : eev e y = .int .i64 b) : OpV P e w ⟨d, .binOp .neq t x y t', ty, ps, af, g⟩ (.bool (decide (a ≠ b))) := by
 have : (a != b) = decide (a ≠ b) := by rw [Bool.eq_iff_iff]; simp
 simp only [OpV, execOp, hx, hy, eqGuard, binOp, Op.intCmp]
 simp [this]
/-- The same, decided. -/
theorem op_t {o : Oper} {φ : Prop} [Decidable φ] (h : OpV P e w o (.bool (decide φ))) (hp : φ) : OpV P e w o (.bool true) := by rwa [decide_eq_true hp] at h
theorem op_f {o : Oper} {φ : Prop} [Decidable φ] (h : OpV P e w o (.bool (decide φ))) (hp : ¬ φ) : OpV P e w o (.bool false) := by rwa [decide_eq_false hp] at h
theorem op_not {v : Bool} (hx : eev e x = .bool v) : OpV P e w ⟨d, .unOp .not t x, ty, ps, af, g⟩ (.bool (!v)) := by simp [OpV, execOp, hx, Op.unary]
theorem op_nott (hx : eev e x = .bool true) : OpV P e w ⟨d, .unOp .not t x, ty, ps, af, g⟩ (.bool false) := op_not hx
theorem op_notf (hx : eev e x = .bool false) : OpV P e w ⟨d, .unOp .not t x, ty, ps, af, g⟩ (.bool true) := op_not hx
theorem op_add (hx : eev e x = .int .i64 a) (hy : eev e y = .int .i64 b) (h : -9223372036854775808 ≤ a + b ∧ a + b ≤ 9223372036854775807) : OpV P e w ⟨d, .binOp .add t x y t', ty, ps, af, g⟩ (.int .i64 (a + b)) := by
 have := IntWalk.i64_in (a + b) (by omega)
 simp [OpV, execOp, hx, hy, eqGuard, binOp, Op.intArith, this]
theorem op_sub (hx : eev e x = .int .i64 a) (hy : eev e y = .int .i64 b) (h : -9223372036854775808 ≤ a - b ∧ a - b ≤ 9223372036854775807) : OpV P e w ⟨d, .binOp .sub t x y t', ty, ps, af, g⟩ (.int .i64 (a - b)) := by
 have := IntWalk.i64_in (a - b) (by omega)
 simp [OpV, execOp, hx, hy, eqGuard, binOp, Op.intArith, this]
theorem op_mul (hx : eev e x = .int .i64 a) (hy : eev e y = .int .i64 b) (h : -9223372036854775808 ≤ a * b ∧ a * b ≤ 9223372036854775807) : OpV P e w ⟨d, .binOp .mul t x y t', ty, ps, af, g⟩ (.int .i64 (a * b)) := by
 have := IntWalk.i64_in (a * b) (by omega)
 simp [OpV, execOp, hx, hy, eqGuard, binOp, Op.intArith, this]
end
theorem op_extract {x : Operand} {k : Nat} {vs : Array Value} {v : Value} (hx : eev e x = .tuple vs) (hv : vs[k]? = some v) : OpV P e w ⟨d, .extract x k, ty, ps, af, g⟩ v := by simp [OpV, execOp, hx, Instr.extract, hv]
/-- Boxes and literal slices make a block. -/
theorem op_box {t : TypeId} {x : Operand} {v : Value} (hx : eev e x = v) : (execOp (eev e) ⟨d, .box t x, ty, ps, af, g⟩).run P w = .ok (.value (.pointer (some ⟨w.heap.size, 0, none⟩))) (w.alloc (.cells v.cells t)) := by
 subst hx
 simp [execOp, Instr.box, newVar, newRow]
theorem op_boxA {t : TypeId} {x : Operand} {cs : List Value} (hx : eev e x = .agg cs.toArray) : (execOp (eev e) ⟨d, .box t x, ty, ps, af, g⟩).run P w = .ok (.value (.pointer (some ⟨w.heap.size, 0, none⟩))) (w.alloc (.cells cs.toArray t)) := op_box hx
def callOk (P : Program) (f : FuncId) : Bool :=
 match P.funcs[f]? with
 | some fn => !(fn.name == "runtime.NumGoroutine") && !fn.body.isNone
 | none => false
theorem run_callFunc_ok {f : FuncId} (h : callOk P f = true) (args : Array Value) : (callFunc f args).run P w = .ok (.enter f args) w := by
 unfold callOk at h
 split at h
 ·rename_i fn hf
  simp only [Bool.and_eq_true, Bool.not_eq_true'] at h
  have h1 : ¬ fn.name = "runtime.NumGoroutine" := by simpa using h.1
  have h2 : ¬ fn.body = none := fun hn => by rw [hn] at h; cases h.2
  unfold callFunc
  simp [hf, h1, h2]
 ·cases h
theorem op_call {f : FuncId} {l : List Operand} {ats : Array TypeId} (h : callOk P f = true) : (execOp (eev e) ⟨d, .call ⟨.value (.func f), l.toArray, ats⟩, ty, ps, af, g⟩).run P w = .ok (.enter f (l.map (eev e)).toArray) w := by
 have e1 : execOp (eev e) ⟨d, .call ⟨.value (.func f), l.toArray, ats⟩, ty, ps, af, g⟩ = callFunc f (#[] ++ l.toArray.map (eev e) ++ #[]) := rfl
 rw [e1, run_callFunc_ok h]
 simp
/-- A call of a function value. -/
theorem op_callv {f : FuncId} {x : Operand} {l : List Operand} {ats : Array TypeId} {cap : List Value} (hx : eev e x = .func (.func f) #[] cap.toArray) (h : callOk P f = true) : (execOp (eev e) ⟨d, .call ⟨.value x, l.toArray, ats⟩, ty, ps, af, g⟩).run P w = .ok (.enter f (l.map (eev e) ++ cap).toArray) w := by
 have e1 : execOp (eev e) ⟨d, .call ⟨.value x, l.toArray, ats⟩, ty, ps, af, g⟩ = (do let d ← Deferred.ofValue (eev e x) (l.toArray.map (eev e)); invoke d.target d.args) := rfl
 rw [e1, hx]
 simp [Deferred.ofValue, invoke, run_callFunc_ok h]
end
end Go.Proofs.YtbnimhmoffchdaaGreatDoor
/- The laws of the operations that build values, make blocks, append and store; over any program. -/
namespace Go.Proofs.YtbnimhmoffchdaaGreatDoor
open Go.RowKit

/-- vs laid over cs from place k on. -/
def putL : List Value → Nat → List Value → List Value
 | cs, _, [] => cs
 | cs, k, v :: vs => putL (cs.set k v) (k + 1) vs
def fillL : List Value → List (Nat × List Value) → List Value
 | z, [] => z
 | z, (k, vs) :: l => fillL (putL z k vs) l
theorem putL_len : ∀ (vs cs : List Value) (k : Nat), (putL cs k vs).length = cs.length
 | [], _, _ => rfl
 | v :: vs, cs, k => by unfold putL; rw [putL_len vs]; simp
theorem fold_putL : ∀ (vs cs : List Value) (k j : Nat), (vs.zipIdx j).foldl (fun (cs : Array Value) (p : Value × Nat) => cs.setIfInBounds (k + p.2) p.1) cs.toArray = (putL cs (k + j) vs).toArray
 | [], cs, k, j => by simp [putL]
 | v :: vs, cs, k, j => by
  rw [List.zipIdx_cons, List.foldl_cons]
  simp only [List.setIfInBounds_toArray]
  rw [fold_putL vs (cs.set (k + j) v) k (j + 1)]
  rfl
/-- The parts: place and cells, of the right sizes, inside. -/
def fillOk (tab : List (Nat × Nat)) (n : Nat) : List (Nat × Value) → List (Nat × List Value) → Prop
 | [], [] => True
 | (i, v) :: ps, (k, vs) :: qs => tab[i]? = some (k, vs.length) ∧ v.cells = vs.toArray ∧ k + vs.length ≤ n ∧ fillOk tab n ps qs
 | _, _ => False
theorem fillOk_nil {tab : List (Nat × Nat)} {n : Nat} : fillOk tab n [] [] := trivial
theorem fillOk_cons {tab : List (Nat × Nat)} {n i k : Nat} {v : Value} {vs : List Value} {ps : List (Nat × Value)} {qs : List (Nat × List Value)} (h1 : tab[i]? = some (k, vs.length)) (h2 : v.cells = vs.toArray) (h3 : Nat.ble (k + vs.length) n = true) (h : fillOk tab n ps qs) : fillOk tab n ((i, v) :: ps) ((k, vs) :: qs) := ⟨h1, h2, Nat.le_of_ble_eq_true h3, h⟩
theorem fill_fillL (place : Nat → Option (Nat × Nat)) (tab : List (Nat × Nat)) (hp : ∀ i p, tab[i]? = some p → place i = some p) : ∀ (ps : List (Nat × Value)) (qs : List (Nat × List Value)) (z : List Value), fillOk tab z.length ps qs → Instr.fill place z.toArray ps = some (fillL z qs).toArray
 | [], [], z, _ => by simp [Instr.fill, fillL]
 | (i, v) :: ps, (k, vs) :: qs, z, h => by
  unfold fillOk at h
  obtain ⟨h1, h2, h3, h4⟩ := h
  unfold Instr.fill fillL
  rw [hp i _ h1]
  simp only [h2]
  rw [if_neg (by simp; omega)]
  have : vs.toArray.zipIdx.foldl (fun (cs : Array Value) (p : Value × Nat) => cs.setIfInBounds (k + p.2) p.1) z.toArray = (putL z k vs).toArray := by
   have := fold_putL vs z k 0
   rw [Nat.add_zero] at this
   rw [← this]
   simp
  rw [this]
  exact fill_fillL place tab hp ps qs (putL z k vs) (by rw [putL_len]; exact h4)
 | [], _ :: _, _, h => by cases h
 | _ :: _, [], _, h => by cases h
def zeroOf (P : Program) (t : TypeId) : Option Value := (P.info? t).bind (·.zero)
def fieldTabL (P : Program) : List Field → Option (List (Nat × Nat))
 | [] => some []
 | f :: fs => match P.info? f.type, fieldTabL P fs with
  | some i, some l => some ((f.offset, i.size) :: l)
  | _, _ => none
def fieldTab (P : Program) (t : TypeId) : Option (List (Nat × Nat)) :=
 match P.underlying t with
 | some (.struct fs) => fieldTabL P fs.toList
 | _ => none
theorem run_places {P : Program} {w : World} : ∀ (fs : List Field) (l : List (Nat × Nat)), fieldTabL P fs = some l → (List.mapM (m := Sem) (fun f : Field => Prod.mk f.offset <$> sizeOf f.type) fs).run P w = .ok l w
 | [], l, h => by
  unfold fieldTabL at h
  injection h with h; subst h
  simp
 | f :: fs, l, h => by
  unfold fieldTabL at h
  split at h
  ·rename_i i l' hi hl
   injection h with h; subst h
   have ih := run_places (w := w) fs l' hl
   have h1 : (sizeOf f.type).run P w = .ok i.size w := by simp [sizeOf, typeInfo, hi]
   simp [List.mapM_cons, ih, h1]
  ·cases h
section
variable {P : Program} {e : Env} {w : World} {d : Option Tmp} {ty : TypeId} {ps : String} {af : Array Edge} {g : Option (Nat × Bool)}
theorem op_build {t : TypeId} {parts : List (Nat × Operand)} {z : List Value} {tab : List (Nat × Nat)} {cs : List Value} (qs : List (Nat × List Value)) (hz : zeroOf P t = some (.agg z.toArray)) (ht : fieldTab P t = some tab) (hq : fillOk tab z.length (parts.map fun p => (p.1, eev e p.2)) qs) (hc : fillL z qs = cs) :
  OpV P e w ⟨d, .build t parts.toArray, ty, ps, af, g⟩ (.agg cs.toArray) := by
 subst hc
 unfold fieldTab at ht
 split at ht
 ·rename_i fs hu
  cases hi : P.info? t with
  | none => rw [zeroOf, hi] at hz; cases hz
  | some i =>
   have hz' : i.zero = some (.agg z.toArray) := by rw [zeroOf, hi] at hz; simpa using hz
   have hp : (Array.mapM (m := Sem) (fun f : Field => Prod.mk f.offset <$> sizeOf f.type) fs).run P w = .ok tab.toArray w := by
    have := run_places (w := w) fs.toList tab ht
    rw [Array.mapM_eq_mapM_toList]
    simp [this]
   simp only [OpV, execOp, Instr.build]
   simp only [Sem.run_bind, zeroValue, typeInfo, run_underlying hu]
   simp [hi, hz', Value.cells, hp]
   rw [fill_fillL (fun i => tab[i]?) tab (fun i p h => h) _ qs z (by simpa using hq)]
   simp
 ·cases ht
def oneSz (P : Program) (t : TypeId) : Bool :=
 match P.info? t with
 | some i => Nat.beq i.size 1
 | none => false
def rowOk (P : Program) (t el size bytes : Nat) : Bool :=
 match P.underlying t with
 | some (.slice e') => Nat.beq e' el && (match P.info? el with
  | some i => Nat.beq i.size size && (Nat.beq i.bytes bytes && (match i.zero with
   | some z => Nat.beq z.cells.size size && Nat.blt 0 size
   | none => false))
  | none => false)
 | _ => false
theorem rowOk_spec {P : Program} {t el size bytes : Nat} (h : rowOk P t el size bytes = true) : P.underlying t = some (.slice el) ∧ ∃ i z, P.info? el = some i ∧ i.zero = some z ∧ i.size = size ∧ i.bytes = bytes ∧ z.cells.size = size ∧ 0 < size := by
 unfold rowOk at h
 split at h
 ·rename_i e' hu
  simp only [Bool.and_eq_true] at h
  obtain ⟨h1, h2⟩ := h
  obtain rfl := Nat.eq_of_beq_eq_true h1
  split at h2
  ·rename_i i hi
   simp only [Bool.and_eq_true] at h2
   obtain ⟨h3, h4, h5⟩ := h2
   split at h5
   ·rename_i z hz
    simp only [Bool.and_eq_true] at h5
    exact ⟨hu, i, z, hi, hz, Nat.eq_of_beq_eq_true h3, Nat.eq_of_beq_eq_true h4, Nat.eq_of_beq_eq_true h5.1, by simpa using h5.2⟩
   ·cases h5
  ·cases h2
 ·cases h
/-- '[]T{}'. -/
theorem op_slice0 {t el size bytes : Nat} (h : rowOk P t el size bytes = true) : (execOp (eev e) ⟨d, .buildSlice t 0 #[], ty, ps, af, g⟩).run P w = .ok (.value (.slice (some ⟨w.heap.size, 0, none⟩) 0 0)) (w.alloc (.cells #[] el)) := by
 obtain ⟨hu, i, z, hi, hz, h1, h2, h3, h4⟩ := rowOk_spec h
 have h0 : (Array.map (fun _ => (default : Value)) (Array.range 0)) = #[] := Array.eq_empty_of_size_eq_zero (by simp)
 simp [execOp, Instr.buildSlice, run_underlying hu, sizeOf, typeInfo, hi, Instr.fill, newRow, h0]
/-- '[]T{x}'. -/
theorem op_slice1 {t el size bytes : Nat} {x : Operand} (cs : List Value) (h : rowOk P t el size bytes = true) (hx : (eev e x).cells = cs.toArray) (hl : cs.length = size) (hs : Nat.ble size 1000 = true) : (execOp (eev e) ⟨d, .buildSlice t 1 #[(0, x)], ty, ps, af, g⟩).run P w = .ok (.value (.slice (some ⟨w.heap.size, 0, none⟩) 1 1)) (w.alloc (.cells cs.toArray el)) := by
 obtain ⟨hu, i, z, hi, hz, h1, h2, h3, h4⟩ := rowOk_spec h
 have hs' : size ≤ 1000 := Nat.le_of_ble_eq_true hs
 have hsz : ¬ 2 ^ 24 < size := by omega
 have hfill : Instr.fill (fun i => some (i * size, size)) ((Array.range (1 * size)).map (z.cells[· % z.cells.size]!)) [(0, eev e x)] = some cs.toArray := by
  have e0 : (Array.range (1 * size)).map (z.cells[· % z.cells.size]!) = (((Array.range (1 * size)).map (z.cells[· % z.cells.size]!)).toList).toArray := by rw [Array.toArray_toList]
  rw [e0]
  generalize hL : ((Array.range (1 * size)).map (z.cells[· % z.cells.size]!)).toList = L
  have hLl : L.length = size := by rw [← hL]; simp
  have := fill_fillL (fun i => some (i * size, size)) [(0, size)] (fun i p hp => by
   cases i with
   | zero => simp at hp ⊢; exact hp
   | succ i => simp at hp) [(0, eev e x)] [(0, cs)] L ⟨by simp [hl], hx, by rw [hLl, hl]; omega, trivial⟩
  rw [this]
  congr 1
  have : putL L 0 cs = cs := by
   have gen : ∀ (cs pre L : List Value), L.length = cs.length → putL (pre ++ L) pre.length cs = pre ++ cs := by
    intro cs
    induction cs with
    | nil => intro pre L hL; have : L = [] := List.eq_nil_of_length_eq_zero (by simpa using hL); subst this; rfl
    | cons c cs ih =>
     intro pre L hL
     cases L with
     | nil => simp at hL
     | cons l L =>
      unfold putL
      have h1 : (pre ++ l :: L).set pre.length c = (pre ++ [c]) ++ L := by simp
      rw [h1]
      have := ih (pre ++ [c]) L (by simpa using hL)
      simp only [List.length_append, List.length_cons, List.length_nil, Nat.zero_add] at this
      rw [this]; simp
   have := gen cs [] L (by rw [hLl, hl])
   simpa using this
  simp only [fillL, this]
 have hne : ¬ size = 0 := by omega
 simp only [execOp, Instr.buildSlice]
 simp only [Sem.run_bind, run_underlying hu, sizeOf, typeInfo]
 simp [hi, h1, hsz, hne, zeroValue, typeInfo, hz]
 have hfill' := hfill
 simp only [Nat.one_mul] at hfill'
 simp [hfill', newRow]
theorem wl_append {n : Nat} {Q : Exit → Act → World → Prop} {ops : Array Oper} {rest : List Oper} (dd : Nat) {s x : Operand} {t el size bytes : Nat} {base : Nat} {v : Value} {k : Nat} {xs : List Value} {ad : Addr} {m c : Nat} {news : List Value}
  (hc : chk ops e n ⟨d, .call ⟨.builtin .append, #[s, x], #[t, t]⟩, ty, ps, af, g⟩ dd true = true) (hT : rowOk P t el size bytes = true) (hs : eev e s = v) (hown : w.ownsRow base el size v k xs) (hx : eev e x = .slice (some ad) m c) (hl : news.length = m * size)
  (hnews : ∀ j u, news[j]? = some u → w.cell? (ad.add j) = some u) (h1 : ∀ u ∈ news, u.oneCell' = true) (h63 : k + m ≤ maxLen) (hbytes : (k + m) * bytes ≤ 140737488355328) (hbase : base ≤ w.heap.size)
  (next : ∀ v' w', w'.ownsRow base el size v' (k + m) (xs ++ news) → w.grownBy w' v.ownBlock → wl P n ops Q rest ((dd, v') :: e) w') : wl P n ops Q (⟨d, .call ⟨.builtin .append, #[s, x], #[t, t]⟩, ty, ps, af, g⟩ :: rest) e w := fun a hf => by
 obtain ⟨hd, hn, hs1, hg, hk⟩ := chk_spec hc
 obtain ⟨hu, i, z, hi, hz, q1, q2, q3, q4⟩ := rowOk_spec hT
 have hk' := eall_mem (hk rfl)
 refine wpList_step fun K hK => ?_
 rw [if_pos (gOk_wanted hf hg)]
 refine wp_append_own w s x t rfl base el i z size bytes hu hi hz q1 q2 q3 q4 v k xs ((hf.eval s (hk' s (by simp [Op.operands, Call.operands]))).trans hs) hown ad m c news ((hf.eval x (hk' x (by simp [Op.operands, Call.operands]))).trans hx) hl hnews h1 h63 hbytes hbase fun v' w' h2 h3 _ => ?_
 simp only at hd
 subst hd
 exact hK _ _ (next v' w' h2 h3 _ (hf.put hn v'))
/-- A store of one cell. -/
theorem op_store {t : TypeId} {x y : Operand} {p : Addr} {u v : Value} (hx : eev e x = .pointer (some p)) (hy : eev e y = v) (h1 : oneSz P t = true) (hv : v.oneCell' = true) (hc : w.cell? p = some u) (hf : w.frozen? p = false) : (execOp (eev e) ⟨d, .store t x y, ty, ps, af, g⟩).run P w = .ok .skip (w.setCell p v) := by
 subst hy
 unfold oneSz at h1
 cases hi : P.info? t with
 | none => rw [hi] at h1; cases h1
 | some i =>
  have hsz : i.size = 1 := by rw [hi] at h1; exact Nat.eq_of_beq_eq_true h1
  simp only [execOp, Instr.storeAt, hx]
  have hcl : (eev e y).cells = #[eev e y] := by
   revert hv
   cases eev e y <;> simp [Value.cells, Value.oneCell']
  revert hv hcl
  generalize eev e y = v
  intro hv hcl
  simp [Instr.sureAddr, storeVar, sizeOf, typeInfo, hi, hsz, hcl, storeCells, Addr.add, run_store P w p v _ hv, hc, hf]
/-- 'var x T' of a variable that has an address. -/
theorem op_alloc {t : TypeId} (z : List Value) {v : Value} (hz : zeroOf P t = some v) (hv : v.cells = z.toArray) : (execOp (eev e) ⟨d, .alloc t, ty, ps, af, g⟩).run P w = .ok (.value (.pointer (some ⟨w.heap.size, 0, none⟩))) (w.alloc (.cells z.toArray t)) := by
 cases hi : P.info? t with
 | none => rw [zeroOf, hi] at hz; cases hz
 | some i =>
  have hz' : i.zero = some v := by rw [zeroOf, hi] at hz; simpa using hz
  simp [execOp, Instr.alloc, zeroValue, typeInfo, hi, hz', newVar, newRow, hv]
theorem setCell_new (w : World) (c : List Value) (t : TypeId) (i : Nat) (v : Value) : (w.alloc (.cells c.toArray t)).setCell ⟨w.heap.size, i, none⟩ v = w.alloc (.cells (c.set i v).toArray t) := by
 simp [World.setCell_alloc_at]
theorem run_storeCells_new (w : World) (t : TypeId) : ∀ (vs c : List Value) (i : Nat), (∀ u ∈ vs, u.oneCell' = true) → i + vs.length ≤ c.length → (storeCells ⟨w.heap.size, 0, none⟩ vs i).run P (w.alloc (.cells c.toArray t)) = .ok () (w.alloc (.cells (putL c i vs).toArray t))
 | [], c, i, _, _ => by simp [storeCells, putL]
 | v :: vs, c, i, h1, hl => by
  have ih := run_storeCells_new w t vs (c.set i v) (i + 1) (fun u hu => h1 u (List.mem_cons_of_mem _ hu)) (by simp at hl ⊢; omega)
  have hb := Blk.new w t c
  have hc : (w.alloc (.cells c.toArray t)).cell? ⟨w.heap.size, i, none⟩ = some (c[i]'(by simp at hl; omega)) := hb.at_ i (by simp)
  have hadd : (⟨w.heap.size, 0, none⟩ : Addr).add i = ⟨w.heap.size, i, none⟩ := by unfold Addr.add; split <;> simp_all
  simp only [storeCells, Sem.run_bind, hadd]
  rw [run_store P _ _ v _ (h1 v (List.mem_cons_self ..))]
  simp only [hc, hb.free i, Bool.false_eq_true, if_false, Result.andThen, setCell_new]
  exact ih
theorem putL_all (cs L : List Value) (h : L.length = cs.length) : putL L 0 cs = cs := by
 have gen : ∀ (cs pre L : List Value), L.length = cs.length → putL (pre ++ L) pre.length cs = pre ++ cs := by
  intro cs
  induction cs with
  | nil => intro pre L hL; have : L = [] := List.eq_nil_of_length_eq_zero (by simpa using hL); subst this; rfl
  | cons c cs ih =>
   intro pre L hL
   cases L with
   | nil => simp at hL
   | cons l L =>
    unfold putL
    have h1 : (pre ++ l :: L).set pre.length c = (pre ++ [c]) ++ L := by simp
    rw [h1]
    have := ih (pre ++ [c]) L (by simpa using hL)
    simp only [List.length_append, List.length_cons, List.length_nil, Nat.zero_add] at this
    rw [this]; simp
 have := gen cs [] L h
 simpa using this
def sizeIs (P : Program) (t n : Nat) : Bool :=
 match P.info? t with
 | some i => Nat.beq i.size n
 | none => false
theorem op_makeFunc {f : Fn} {l : List Operand} : OpV P e w ⟨d, .makeFunc f #[] l.toArray, ty, ps, af, g⟩ (.func f #[] (l.map (eev e)).toArray) := by
 simp [OpV, execOp, Instr.makeFunc]
/-- A whole block that has just been made is filled. -/
theorem op_fill {t : TypeId} {x y : Operand} (z cs : List Value) (hp : eev e x = .pointer (some ⟨w.heap.size, 0, none⟩)) (hl : z.length = cs.length) (hs : sizeIs P t cs.length = true) (hx : (eev e y).cells = cs.toArray) (h1 : cs.all Value.oneCell' = true) :
  (execOp (eev e) ⟨d, .store t x y, ty, ps, af, g⟩).run P (w.alloc (.cells z.toArray t)) = .ok .skip (w.alloc (.cells cs.toArray t)) := by
 unfold sizeIs at hs
 cases hi : P.info? t with
 | none => rw [hi] at hs; cases hs
 | some i =>
  have hsz : i.size = cs.length := by rw [hi] at hs; exact Nat.eq_of_beq_eq_true hs
  have hst := run_storeCells_new (P := P) w t cs z 0 (fun u hu => List.all_eq_true.1 h1 u hu) (by omega)
  rw [putL_all cs z hl] at hst
  simp only [execOp, Instr.storeAt, hp]
  simp [Instr.sureAddr, storeVar, sizeOf, typeInfo, hi, hsz, hx, hst]
theorem wl_donew {n : Nat} {Q : Exit → Act → World → Prop} {ops : Array Oper} {rest : List Oper} {o : Oper} {w' : World} (hc : chk0 ops e o = true) (hv : (execOp (eev e) o).run P w = .ok .skip w') (next : ∀ w1, w1 = w' → wl P n ops Q rest e w1) : wl P n ops Q (o :: rest) e w := wl_do hc hv (next _ rfl)
theorem op_makeFuncC {f : Fn} {l : List Operand} (cs : List Value) (h : l.map (eev e) = cs) : OpV P e w ⟨d, .makeFunc f #[] l.toArray, ty, ps, af, g⟩ (.func f #[] cs.toArray) := by
 subst h; exact op_makeFunc
end
end Go.Proofs.YtbnimhmoffchdaaGreatDoor
/- More laws of operations: results that lie in memory, equality of structs, slices of slices, a store into a block that is known. -/
namespace Go.Proofs.YtbnimhmoffchdaaGreatDoor
open Go.RowKit

/-- A result that lies in memory. -/
theorem run_resultVar {P : Program} {w : World} {t : TypeId} {p : Addr} {cs : List Value} (hs : aggSz P t = some cs.length) (hc : ∀ j v, cs[j]? = some v → w.cell? (p.add j) = some v) : (loadVar t p).run P w = .ok (.agg cs.toArray) w := by
 have h2 : (isAgg t).run P w = .ok true w ∧ (P.info? t).map (·.size) = some cs.length := by
  unfold aggSz at hs
  split at hs
  ·rename_i fs hu
   exact ⟨by unfold isAgg; simp [run_underlying hu], hs⟩
  ·rename_i a b hu
   exact ⟨by unfold isAgg; simp [run_underlying hu], hs⟩
  ·cases hs
 cases hi : P.info? t with
 | none => rw [hi] at h2; cases h2.2
 | some i =>
  have hi2 : i.size = cs.length := by have := h2.2; rw [hi] at this; simpa using this
  simp [loadVar, h2.1, sizeOf, typeInfo, hi, hi2, run_loadCells_list w p cs hc]
section
variable {P : Program} {n : Nat} {e : Env} {w : World} {fn : Func} {R : Ending → World → Prop}
theorem wx_retC1 {a t : Nat} {b o : Nat} (cs : List Value) (hr : fn.results = #[.cell a t]) (hk : ehas e a = true) (hv : eget e a = .pointer (some ⟨b, o, none⟩)) (hs : aggSz P t = some cs.length) (hc : ∀ j v, cs[j]? = some v → w.cell? ⟨b, o + j, none⟩ = some v)
  (h : R (.returned (.agg cs.toArray)) w) : wx n (bodyPost P fn R) .ret e w := fun x hf => by
 have hl := run_resultVar (P := P) (w := w) (t := t) (p := ⟨b, o, none⟩) (cs := cs) hs fun j v hj => by
  have : (⟨b, o, none⟩ : Addr).add j = ⟨b, o + j, none⟩ := by unfold Addr.add; split <;> simp_all
  rw [this]; exact hc j v hj
 refine bodyPost_ret (v := .agg cs.toArray) ?_ hf.defers h
 have h1 := hf.at_ a hk
 rw [hv, Array.getD_eq_getD_getElem?] at h1
 simp [results, hr, h1, asAddr, hl]
theorem wx_retCT {a t u : Nat} {b o : Nat} {v : Value} (cs : List Value) (hr : fn.results = #[.cell a t, .tmp u]) (hk : ehas e a = true) (hv : eget e a = .pointer (some ⟨b, o, none⟩)) (hk' : ehas e u = true) (hv' : eget e u = v) (hs : aggSz P t = some cs.length) (hc : ∀ j v, cs[j]? = some v → w.cell? ⟨b, o + j, none⟩ = some v)
  (h : R (.returned (.tuple #[.agg cs.toArray, v])) w) : wx n (bodyPost P fn R) .ret e w := fun x hf => by
 have hl := run_resultVar (P := P) (w := w) (t := t) (p := ⟨b, o, none⟩) (cs := cs) hs fun j v hj => by
  have : (⟨b, o, none⟩ : Addr).add j = ⟨b, o + j, none⟩ := by unfold Addr.add; split <;> simp_all
  rw [this]; exact hc j v hj
 refine bodyPost_ret (v := .tuple #[.agg cs.toArray, v]) ?_ hf.defers h
 have h1 := hf.at_ a hk
 have h2 := hf.at_ u hk'
 rw [hv, Array.getD_eq_getD_getElem?] at h1
 rw [hv', Array.getD_eq_getD_getElem?] at h2
 simp [results, hr, h1, h2, asAddr, hl]
theorem wx_ret0 (hr : fn.results = #[]) (h : R (.returned (.tuple #[])) w) : wx n (bodyPost P fn R) .ret e w := fun _ hf =>
 bodyPost_ret (v := .tuple #[]) (results_none hr _ _ _) hf.defers h
end
/-- Equality of cells that are ints or bools. -/
def celEq : Value → Value → Bool
 | .int _ a, .int _ b => decide (a = b)
 | .bool a, .bool b => a == b
 | _, _ => false
def celsEq : List Value → List Value → Bool
 | [], [] => true
 | a :: l, b :: m => celEq a b && celsEq l m
 | _, _ => false
/-- A struct of ints and bools, a cell each, none of them blank. -/
def flatL (P : Program) : Nat → List Field → List Value → List Value → Bool
 | _, [], [], [] => true
 | k, f :: fs, .int i _ :: l, .int j _ :: m => !(f.name == "_") && (Nat.beq f.offset k && ((match P.underlying f.type with | some (.int _) => true | _ => false) && (decide (i = j) && flatL P (k + 1) fs l m)))
 | k, f :: fs, .bool _ :: l, .bool _ :: m => !(f.name == "_") && (Nat.beq f.offset k && ((match P.underlying f.type with | some .bool => true | _ => false) && flatL P (k + 1) fs l m))
 | _, _, _, _ => false
theorem run_eqFields_flat {P : Program} {w : World} (d : Nat) : ∀ (fs : List Field) (l m pl pm : List Value), flatL P pl.length fs l m = true → pl.length = pm.length → (Op.eqFields (d + 1) (pl ++ l).toArray (pm ++ m).toArray fs).run P w = .ok (celsEq l m) w
 | [], [], [], _, _, _, _ => by simp [Op.eqFields, celsEq]
 | f :: fs, .int i a :: l, .int j b :: m, pl, pm, h, hp => by
  simp only [flatL, Bool.and_eq_true, Bool.not_eq_true', decide_eq_true_eq] at h
  obtain ⟨h1, h2, h3, rfl, h5⟩ := h
  have h2' := Nat.eq_of_beq_eq_true h2
  have hn : ¬ f.name = "_" := by simpa using h1
  cases hu : P.underlying f.type with
  | none => rw [hu] at h3; cases h3
  | some ud =>
   cases ud <;> (try (rw [hu] at h3; cases h3; done))
   have ih := run_eqFields_flat (w := w) d fs l m (pl ++ [.int i a]) (pm ++ [.int i b]) (by simpa using h5) (by simp [hp])
   have q1 : (part f.type (pl ++ .int i a :: l).toArray f.offset).run P w = .ok (.int i a) w := by simp [part, isAgg, run_underlying hu, h2']
   have q2 : (part f.type (pm ++ .int i b :: m).toArray f.offset).run P w = .ok (.int i b) w := by simp [part, isAgg, run_underlying hu, h2', hp]
   have q3 : (Op.equalIn (d + 1) f.type (.int i a) (.int i b)).run P w = .ok (a == b) w := by simp [Op.equalIn, run_underlying hu]
   simp only [Op.eqFields, hn, ne_eq, not_false_eq_true, if_true, Sem.run_bind, q1, q2, q3, Result.andThen]
   by_cases hab : a = b
   ·subst hab
    simp only [List.append_assoc, List.cons_append, List.nil_append] at ih
    simp [ih, celsEq, celEq]
   ·have : (a == b) = false := by simpa using hab
    simp [this, celsEq, celEq, hab]
 | f :: fs, .bool a :: l, .bool b :: m, pl, pm, h, hp => by
  simp only [flatL, Bool.and_eq_true, Bool.not_eq_true'] at h
  obtain ⟨h1, h2, h3, h5⟩ := h
  have h2' := Nat.eq_of_beq_eq_true h2
  have hn : ¬ f.name = "_" := by simpa using h1
  cases hu : P.underlying f.type with
  | none => rw [hu] at h3; cases h3
  | some ud =>
   cases ud <;> (try (rw [hu] at h3; cases h3; done))
   have ih := run_eqFields_flat (w := w) d fs l m (pl ++ [.bool a]) (pm ++ [.bool b]) (by simpa using h5) (by simp [hp])
   have q1 : (part f.type (pl ++ .bool a :: l).toArray f.offset).run P w = .ok (.bool a) w := by simp [part, isAgg, run_underlying hu, h2']
   have q2 : (part f.type (pm ++ .bool b :: m).toArray f.offset).run P w = .ok (.bool b) w := by simp [part, isAgg, run_underlying hu, h2', hp]
   have q3 : (Op.equalIn (d + 1) f.type (.bool a) (.bool b)).run P w = .ok (a == b) w := run_equalIn_bool' w d f.type a b hu
   simp only [Op.eqFields, hn, ne_eq, not_false_eq_true, if_true, Sem.run_bind, q1, q2, q3, Result.andThen]
   simp only [List.append_assoc, List.cons_append, List.nil_append] at ih
   cases a <;> cases b <;> simp [ih, celsEq, celEq]
 | [], _ :: _, _, _, _, h, _ => by simp [flatL] at h
 | [], [], _ :: _, _, _, h, _ => by simp [flatL] at h
 | _ :: _, [], _, _, _, h, _ => by simp [flatL] at h
/-- '==' on structs of ints and bools. -/
theorem op_eqFlat {P : Program} {e : Env} {w : World} {d : Option Tmp} {ty : TypeId} {ps : String} {af : Array Edge} {g : Option (Nat × Bool)} {t t' : TypeId} {x y : Operand} {cs ds : List Value} {fs : Array Field} {b : Bool} (hx : eev e x = .agg cs.toArray) (hy : eev e y = .agg ds.toArray)
  (hu : P.underlying t = some (.struct fs)) (hst : P.stoodInHeld t = false) (hgt : P.eqGuardType P.depth t = false) (hf : flatL P 0 (P.fieldsOf t).toList cs ds = true) (hb : celsEq cs ds = b) : OpV P e w ⟨d, .binOp .eql t x y t', ty, ps, af, g⟩ (.bool b) := by
 have hfs : P.fieldsOf t = fs := by unfold Program.fieldsOf; rw [hu]
 have h1 : (Op.equal t (.agg cs.toArray) (.agg ds.toArray)).run P w = .ok b w := by
  unfold Op.equal Op.maxDepth
  rw [run_equalIn_struct w 9999 t _ _ (by rw [hfs]; exact hu) hst]
  have := run_eqFields_flat (P := P) (w := w) 9998 (P.fieldsOf t).toList cs ds [] [] hf rfl
  simp only [List.nil_append] at this
  rw [this, hb]
 simp only [OpV, execOp, hx, hy]
 simp [eqGuard, hgt, binOp, h1]
theorem blk_setRow {w : World} {b : Nat} {t : TypeId} {z : List Value} (hb : Blk w b t z) (cs : List Value) (_ : z.length = cs.length) : Blk (w.setRow b cs.toArray) b t cs := by
 unfold Blk at hb ⊢
 simp [World.setRow, hb, Array.getElem?_modify]
theorem below_setRow {B b : Nat} {a w : World} (h : Below B a w) (hb : B ≤ b) (cs : Array Value) : Below B a (w.setRow b cs) := by
 obtain ⟨h1, h2, h3, h4, h5⟩ := h
 refine ⟨h1, h2, h3, by simpa [World.setRow] using h4, fun k hk => ?_⟩
 rw [← h5 k hk]
 have hne : b ≠ k := by omega
 simp [World.setRow, Array.getElem?_modify, hne]
/-- 'x[:k]' of a slice. -/
theorem op_sliceTo {P : Program} {e : Env} {w : World} {d : Option Tmp} {ty : TypeId} {ps : String} {af : Array Edge} {g : Option (Nat × Bool)} {t : TypeId} {x hi : Operand} {A : Option Addr} {l c k : Nat} (hx : eev e x = .slice A l c) (hh : eev e hi = .int .i64 (k : Int)) {sz : Nat} (ht : isSliceT P t = true) (hs : elemSz P t = some sz) (hk : k ≤ c) :
  OpV P e w ⟨d, .slice t x none (some hi) none, ty, ps, af, g⟩ (.slice A k c) := by
 unfold isSliceT at ht
 split at ht
 ·rename_i E hu
  simp only [OpV, execOp, Instr.sliceAt, hx, Option.map_some, Option.map_none, hh]
  cases hE : P.info? E with
  | none => exact absurd hs (by rw [elemSz, hu]; simp [hE])
  | some inf =>
   have hadd : (if c = 0 then A else A.map (·.add (0 * inf.size))) = A := by
    split
    ·rfl
    ·cases A <;> simp [Addr.add]
   simp only [Nat.zero_mul] at hadd
   simp [run_underlying hu, Instr.slice, Instr.sliceBounds, Instr.sliceBound, asIntOf, hk, sizeOf, typeInfo, hE, hadd]
 ·cases ht
end Go.Proofs.YtbnimhmoffchdaaGreatDoor
