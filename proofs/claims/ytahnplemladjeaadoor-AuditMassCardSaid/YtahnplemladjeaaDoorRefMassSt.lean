/- What holds in recyclingref59.Mass. -/
import Derived.Test.YtahnplemladjeaaDoorBaled
import Derived.Test.YtahnplemladjeaaDoorRefSt
import Derived.Test.YtahnplemladjeaaDoorHeld
namespace Go.Proofs.YtahnplemladjeaaDoor
open Go.RowKit

/-- What holds in recyclingref59.Mass: the books in block N, told in block N + 2, the findings owned by v. -/
def RPre (w : World) (N : Nat) (bk : List Value) (T : Nat → Bool) (fs : List Fnd) (v : Value) (wr : World) : Prop :=
  Below N w wr ∧ N + 3 ≤ wr.heap.size ∧ Blk wr N 40 bk ∧ Blk wr (N + 1 + 1) 4 (toC T) ∧ wr.ownsRow N 49 3 v fs.length (fs.flatMap fnC)
section
variable {w wr w' : World} {N : Nat} {bk : List Value} {T : Nat → Bool} {fs : List Fnd} {v : Value}
theorem grownBy_of_below (h : Below wr.heap.size wr w') (row : Option Nat) : wr.grownBy w' row := ⟨h.os, h.tape, h.output, h.size, fun k hk _ => h.block k hk⟩
theorem own_later {base : Nat} {e : TypeId} {size n : Nat} {xs : List Value} (h : wr.ownsRow base e size v n xs) (hb : Below wr.heap.size wr w') : w'.ownsRow base e size v n xs :=
  h.kept (grownBy_of_below hb none) (by cases v.ownBlock <;> simp)
theorem RPre.later (h : RPre w N bk T fs v wr) (hb : Below wr.heap.size wr w') : RPre w N bk T fs v w' := by
  obtain ⟨a, b, c, d, e⟩ := h
  exact ⟨a.trans (hb.mono (by omega)), Nat.le_trans b hb.size, c.below hb c.lt, d.below hb d.lt, own_later e hb⟩
theorem RPre.push {f : Fnd} {v' : Value} (h : RPre w N bk T fs v wr) (hown : w'.ownsRow N 49 3 v' (fs.length + 1) (fs.flatMap fnC ++ fnC f)) (hg : (wr.alloc (.cells (fnC f).toArray 49)).grownBy w' v.ownBlock) : RPre w N bk T (fs ++ [f]) v' w' := by
  obtain ⟨a, b, c, d, e⟩ := h
  refine ⟨(a.alloc (by omega) _).grown hg (by simp; omega) (fun k hk => (e.lt k hk).1), Nat.le_trans b (Nat.le_trans (by simp) hg.size), (c.alloc _).grown hg (own_blk_ne e c (by decide)), (d.alloc _).grown hg (own_blk_ne e d (by decide)), by simpa using hown⟩
theorem RPre.told (h : RPre w N bk T fs v wr) (i : Nat) (u : Bool) : RPre w N bk (upd T i u) fs v (wr.setCell ⟨N + 1 + 1, i, none⟩ (.bool u)) := by
  obtain ⟨a, b, c, d, e⟩ := h
  exact ⟨a.setCell (p := ⟨N + 1 + 1, i, none⟩) (by simp; omega) _, by simpa [World.setCell] using b, c.far (c.ne_ d (by decide)) _, by rw [← toC_set]; exact d.set_ i _, own_setCell_other e (own_blk_ne e d (by decide)) _⟩
theorem RPre.alloc (h : RPre w N bk T fs v wr) (o : Obj) : RPre w N bk T fs v (wr.alloc o) := h.later ((Below.refl _ _).alloc (Nat.le_refl _) _)
theorem RPre.drewN (h : RPre w N bk T fs v wr) (n : Nat) : RPre w N bk T fs v (wr.drewN n) := by
  obtain ⟨a, b, c, d, e⟩ := h
  exact ⟨below_drewN a n, b, c, d, e⟩
end
theorem rpre_start {w : World} {bk : List Value} : RPre w w.heap.size bk (fun _ => false) [] (.slice (some ⟨w.heap.size + 1, 0, none⟩) 0 0) (((w.alloc (.cells bk.toArray 40)).alloc (.cells #[] 49)).alloc (.cells (toC fun _ => false).toArray 4)) := by
  have h0 := Blk.new w 40 bk
  have h1 := World.ownsRow_made (w.alloc (.cells bk.toArray 40)) (base := w.heap.size) (e := 49) (size := 3) #[] 0 (by simp) (by unfold maxLen; omega) rfl
  have h2 := Blk.new ((w.alloc (.cells bk.toArray 40)).alloc (.cells #[] 49)) 4 (toC fun _ => false)
  simp only [World.size_alloc] at h1 h2
  exact ⟨(((Below.refl _ _).alloc (Nat.le_refl _) _).alloc (by simp) _).alloc (by simp only [World.size_alloc]; omega) _, by simp, (h0.alloc _).alloc _, h2, h1.alloc _⟩
theorem mk7b (w : World) : (Instr.makeSlice 65 (.int .i64 7) (.int .i64 7)).run Tryd.prog w = .ok (.slice (some ⟨w.heap.size, 0, none⟩) 7 7) (w.alloc (.cells (toC fun _ => false).toArray 4)) := by kernel_rfl

theorem RPre.dr {w wr w' : World} {N : Nat} {bk : List Value} {T : Nat → Bool} {fs : List Fnd} {v : Value} (h : RPre w N bk T fs v wr) (hd : Dr wr w') : RPre w N bk T fs v w' := by
  obtain ⟨m, rfl⟩ := hd; exact h.drewN m
/-- One finding appended to a row that is owned. -/
theorem wl_pushO {n : Nat} {Q : Exit → Act → World → Prop} {ops : Array Oper} {rest : List Oper} {e : Env} {ty : TypeId} {ps : String} {af : Array Edge} {g : Option (Nat × Bool)} {d : Option Tmp} {wr w1 : World} {N : Nat} {fs : List Fnd} {v : Value} (dd : Nat) {s x : Operand} (f : Fnd)
    (hc : chk ops e n ⟨d, .call ⟨.builtin .append, #[s, x], #[41, 41]⟩, ty, ps, af, g⟩ dd true = true) (hs : eev e s = v) (hx : eev e x = .slice (some ⟨wr.heap.size, 0, none⟩) 1 1)
    (hS : wr.ownsRow N 49 3 v fs.length (fs.flatMap fnC)) (hN : N ≤ wr.heap.size) (hw1 : w1 = wr.alloc (.cells (fnC f).toArray 49)) (hlen : fs.length < 1000000)
    (next : ∀ v' w', w'.ownsRow N 49 3 v' (fs.length + 1) (fs.flatMap fnC ++ fnC f) → (wr.alloc (.cells (fnC f).toArray 49)).grownBy w' v.ownBlock → wl Tryd.prog n ops Q rest ((dd, v') :: e) w') : wl Tryd.prog n ops Q (⟨d, .call ⟨.builtin .append, #[s, x], #[41, 41]⟩, ty, ps, af, g⟩ :: rest) e w1 := by
  subst hw1
  exact wl_append (el := 49) (size := 3) (bytes := 24) (base := N) (k := fs.length) (xs := fs.flatMap fnC) (news := fnC f) dd hc (by kernel_rfl) hs (hS.alloc _) hx rfl (fun j u hu => new_cells wr (fnC f) _ j u hu) (fnC_one f) (by unfold maxLen; omega) (by omega) (by simp; omega) next
end Go.Proofs.YtahnplemladjeaaDoor
