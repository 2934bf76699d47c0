/- General words for memory and small lemmas, over any program: blocks that are known whole, slices that read as lists, frames. -/
import Derived.Test.YtpbgfdmkebnjgaaGreatDoorRows
import Derived.WalkKit
import Derived.WalkSpells
import Derived.WalkLawsBesides
import Derived.Deep.RegionLaw
import Derived.Deep.AppendLies
import Derived.Deep.QuietTactic
import Derived.Deep.DeepCutAuto
import Derived.BigQuiet
import Derived.BigRegion
import Derived.StillTailTactics
import Derived.Lib.Hide
import Derived.Deep.DeepFit
namespace Go.Proofs.YtpbgfdmkebnjgaaGreatDoor
open Go.RowKit

def I64 (n : Int) : Prop := -9223372036854775808 ≤ n ∧ n ≤ 9223372036854775807
theorem ret_bool {a b : Bool} (h : a = b) : Ending.returned (.bool a) = .returned (.bool b) := by rw [h]
theorem ret_int {a b : Int} (h : a = b) : Ending.returned (.int .i64 a) = .returned (.int .i64 b) := by rw [h]
theorem int_eq {a b : Int} (h : a = b) : Value.int .i64 a = .int .i64 b := by rw [h]

/-- Block g is just the cells cs of element type t, none frozen. -/
def Blk (w : World) (g : Nat) (t : TypeId) (cs : List Value) : Prop := w.heap[g]? = some (.cells cs.toArray t (0, 0))
section
variable {w w' : World} {g : Nat} {t : TypeId} {cs : List Value}
theorem Blk.lt (h : Blk w g t cs) : g < w.heap.size := (Array.getElem?_eq_some_iff.1 h).1
theorem Blk.cell (h : Blk w g t cs) (i : Nat) : w.cell? ⟨g, i, none⟩ = cs[i]? := by
  have := cell_of_row w g i cs.toArray t (0, 0) h
  simpa using this
theorem Blk.at_ (h : Blk w g t cs) (i : Nat) {u : Value} (hu : cs[i]? = some u) : w.cell? ⟨g, i, none⟩ = some u := (h.cell i).trans hu
theorem Blk.free (h : Blk w g t cs) (i : Nat) : w.frozen? ⟨g, i, none⟩ = false := by
  unfold Blk at h
  simp [World.frozen?, h]
theorem Blk.new (w : World) (t : TypeId) (cs : List Value) : Blk (w.alloc (.cells cs.toArray t)) w.heap.size t cs := heap_alloc_new w _
theorem Blk.drew (h : Blk w g t cs) : Blk w.drew g t cs := h
theorem Blk.drewN (h : Blk w g t cs) (n : Nat) : Blk (w.drewN n) g t cs := h
theorem Blk.alloc (h : Blk w g t cs) (o : Obj) : Blk (w.alloc o) g t cs := (Below.heap_alloc w o g h.lt).trans h
theorem Blk.set_ (h : Blk w g t cs) (i : Nat) (u : Value) : Blk (w.setCell ⟨g, i, none⟩ u) g t (cs.set i u) := by
  unfold Blk at h ⊢
  simp [World.setCell, Array.getElem?_modify, h]
theorem Blk.far (h : Blk w g t cs) {p : Addr} (hp : g ≠ p.block) (u : Value) : Blk (w.setCell p u) g t cs := (Below.heap_setCell w p u g hp).trans h
theorem Blk.below {B : Nat} (h : Blk w g t cs) (hb : Below B w w') (hg : g < B) : Blk w' g t cs := (hb.block g hg).trans h
theorem Blk.grown {row : Option Nat} (h : Blk w g t cs) (hb : w.grownBy w' row) (hg : some g ≠ row) : Blk w' g t cs := (hb.block g h.lt hg).trans h
theorem Blk.ne_ {g' : Nat} {t' : TypeId} {cs' : List Value} (h : Blk w g t cs) (h' : Blk w g' t' cs') (hne : t ≠ t') : g ≠ g' := by
  rintro rfl
  unfold Blk at h h'
  rw [h] at h'
  injection h' with h'
  injection h' with _ ht
  exact hne ht
theorem own_blk_ne {base : Nat} {e : TypeId} {size n : Nat} {v : Value} {xs : List Value} (h : w.ownsRow base e size v n xs) (hg : Blk w g t cs) (hne : e ≠ t) : some g ≠ v.ownBlock := by
  rcases h.2 with ⟨rfl, _⟩ | ⟨g', cap, cur, rfl, _, hh, _⟩
  · simp [Value.ownBlock]
  · intro he
    have e1 : g = g' := by simpa [Value.ownBlock] using he
    subst e1
    unfold Blk at hg
    rw [hh] at hg
    injection hg with hg
    injection hg with _ ht
    exact hne ht
end

/-- Old memory is as it was below B; a whole-known block whose element type is not listed is as it was. -/
structure Kp (ts : List TypeId) (B : Nat) (w w' : World) : Prop where
  below : Below B w w'
  blk : ∀ g t cs, t ∉ ts → Blk w g t cs → Blk w' g t cs
theorem Kp.trans {ts : List TypeId} {B : Nat} {a b c : World} (h : Kp ts B a b) (k : Kp ts B b c) : Kp ts B a c :=
  ⟨h.below.trans k.below, fun g t cs ht hb => k.blk g t cs ht (h.blk g t cs ht hb)⟩

/-- A slice whose elements, k cells each, read as the list xs; it lies below block B. R relates an element to its cells. -/
def Rd {α : Type} (w : World) (B k : Nat) (R : α → List Value → Prop) (A : Option Addr) (xs : List α) : Prop :=
  xs.length ≤ 9223372036854775807 ∧ (0 < xs.length → ∃ b off, A = some ⟨b, off, none⟩ ∧ b < B ∧
    ∀ i x, xs[i]? = some x → ∃ cs, cs.length = k ∧ R x cs ∧ ∀ j u, cs[j]? = some u → w.cell? ⟨b, off + i * k + j, none⟩ = some u)
section
variable {α : Type} {w w' : World} {B B' k : Nat} {R R' : α → List Value → Prop} {A : Option Addr} {xs : List α}
theorem Rd.nil : Rd w B k R A ([] : List α) := ⟨by simp, fun h => absurd h (by simp)⟩
theorem Rd.at_ (h : Rd w B k R A xs) {i : Nat} {x : α} (hx : xs[i]? = some x) :
    ∃ b off, A = some ⟨b, off, none⟩ ∧ b < B ∧ ∃ cs, cs.length = k ∧ R x cs ∧ ∀ j u, cs[j]? = some u → w.cell? ⟨b, off + i * k + j, none⟩ = some u := by
  have hl : i < xs.length := (List.getElem?_eq_some_iff.1 hx).1
  obtain ⟨b, off, e, hb, hc⟩ := h.2 (by omega)
  exact ⟨b, off, e, hb, hc i x hx⟩
theorem Rd.row {enc : α → List Value} {b off : Nat} (h : Rd w B k (fun x cs => cs = enc x) (some ⟨b, off, none⟩) xs) {i : Nat} {x : α} (hx : xs[i]? = some x) : ∀ j u, (enc x)[j]? = some u → w.cell? ⟨b, off + i * k + j, none⟩ = some u := by
  obtain ⟨b', off', e, _, cs, _, rfl, hc⟩ := h.at_ hx
  injection e with e
  injection e with e1 e2
  subst e1 e2
  exact hc
theorem Rd.keep (h : Rd w B k R A xs) (hR : ∀ x cs, R x cs → R' x cs) (hk : ∀ p : Addr, p.block < B → w'.cell? p = w.cell? p) : Rd w' B k R' A xs :=
  ⟨h.1, fun hn => by
    obtain ⟨b, off, e, hb, hc⟩ := h.2 hn
    refine ⟨b, off, e, hb, fun i x hx => ?_⟩
    obtain ⟨cs, h1, h2, h3⟩ := hc i x hx
    exact ⟨cs, h1, hR x cs h2, fun j u hu => (hk _ hb).trans (h3 j u hu)⟩⟩
theorem Rd.below (h : Rd w B k R A xs) (hb : Below B w w') : Rd w' B k R A xs := h.keep (fun _ _ h => h) fun _ hp => hb.cell hp
theorem Rd.belowR (h : Rd w B k R A xs) (hR : ∀ x cs, R x cs → R' x cs) (hb : Below B w w') : Rd w' B k R' A xs := h.keep hR fun _ hp => hb.cell hp
theorem Rd.more (h : Rd w B k R A xs) (hB : B ≤ B') : Rd w B' k R A xs :=
  ⟨h.1, fun hn => by
    obtain ⟨b, off, e, hb, hc⟩ := h.2 hn
    exact ⟨b, off, e, by omega, hc⟩⟩
theorem Rd.drewN (h : Rd w B k R A xs) (n : Nat) : Rd (w.drewN n) B k R A xs := h.keep (fun _ _ h => h) fun _ _ => rfl
theorem flat_at {enc : α → List Value} (hk : ∀ x, (enc x).length = k) : ∀ (xs : List α) (i : Nat) (x : α), xs[i]? = some x → ∀ j, j < k → (xs.flatMap enc)[i * k + j]? = (enc x)[j]?
  | [], i, x, h, _, _ => by simp at h
  | y :: ys, 0, x, h, j, hj => by
    simp at h; subst h
    simp [List.getElem?_append, hk, hj]
  | y :: ys, i + 1, x, h, j, hj => by
    have h' : ys[i]? = some x := by simpa using h
    have := flat_at hk ys i x h' j hj
    simp only [List.flatMap_cons]
    rw [List.getElem?_append_right (by rw [hk]; rw [Nat.succ_mul]; omega), hk, ← this]
    congr 1
    rw [Nat.succ_mul]; omega
theorem flat_len {enc : α → List Value} (hk : ∀ x, (enc x).length = k) (xs : List α) : (xs.flatMap enc).length = xs.length * k := by
  induction xs with
  | nil => simp
  | cons x xs ih => simp only [List.flatMap_cons, List.length_append, ih, hk, List.length_cons, Nat.succ_mul]; omega
/-- What the call has built by append reads as a list. -/
theorem Rd.of_own {enc : α → List Value} {base : Nat} {e : TypeId} {n c : Nat} (hk : ∀ x, (enc x).length = k) (h : w.ownsRow base e k (.slice A n c) xs.length (xs.flatMap enc)) :
    n = xs.length ∧ Rd w w.heap.size k (fun x cs => cs = enc x) A xs := by
  rcases h.2 with ⟨hv, h0⟩ | ⟨g, cap, cur, hv, hb, hh, hnc, hm, hs, htake⟩
  · injection hv with h1 h2 h3
    subst h2
    have : xs = [] := List.eq_nil_of_length_eq_zero h0
    subst this
    exact ⟨rfl, Rd.nil⟩
  · injection hv with h1 h2 h3
    subst h1 h2
    refine ⟨rfl, by unfold maxLen at hm; omega, fun _ => ⟨g, 0, rfl, (Array.getElem?_eq_some_iff.1 hh).1, fun i x hx => ⟨enc x, hk x, rfl, fun j u hu => ?_⟩⟩⟩
    have hj : j < k := by rw [← hk x]; exact (List.getElem?_eq_some_iff.1 hu).1
    have hil : i < xs.length := (List.getElem?_eq_some_iff.1 hx).1
    rw [cell_of_row w g _ cur e (0, 0) hh]
    have hf := flat_at hk xs i x hx j hj
    rw [hu, ← htake, List.getElem?_take] at hf
    split at hf
    · simpa using hf
    · cases hf
end
theorem new_cells (w : World) (cs : List Value) (t : TypeId) (j : Nat) (u : Value) (h : cs[j]? = some u) : (w.alloc (.cells cs.toArray t)).cell? ((⟨w.heap.size, 0, none⟩ : Addr).add j) = some u := by
  have hadd : (⟨w.heap.size, 0, none⟩ : Addr).add j = ⟨w.heap.size, j, none⟩ := by unfold Addr.add; split <;> simp_all
  rw [hadd]
  exact (Blk.new w t cs).at_ j h
theorem below_drewN {B : Nat} {a w : World} (h : Below B a w) (n : Nat) : Below B a (w.drewN n) := ⟨h.os, h.tape, h.output, h.size, h.block⟩
theorem take_snoc {α : Type} {xs : List α} {k : Nat} {x : α} (h : xs[k]? = some x) : xs.take (k + 1) = xs.take k ++ [x] := by
  obtain ⟨hl, rfl⟩ := List.getElem?_eq_some_iff.1 h
  rw [List.take_succ_eq_append_getElem hl]
theorem get_of_lt {α : Type} {xs : List α} {k : Nat} (h : k < xs.length) : ∃ x, xs[k]? = some x := ⟨xs[k], List.getElem?_eq_getElem h⟩
end Go.Proofs.YtpbgfdmkebnjgaaGreatDoor
