/- What holds in a reference's function that collects findings: the books in a block of their own, the findings owned. -/
import Derived.Test.YtahnplemladjeaaDoorOpsB
import Derived.Test.YtahnplemladjeaaDoorFeesPlain
namespace Go.Proofs.YtahnplemladjeaaDoor
open Go.RowKit

theorem grownBy_below {w w' : World} (h : Below w.heap.size w w') (row : Option Nat) : w.grownBy w' row := ⟨h.os, h.tape, h.output, h.size, fun k hk _ => h.block k hk⟩
theorem own_after {w w' : World} {v : Value} {base : Nat} {e : TypeId} {size n : Nat} {xs : List Value} (h : w.ownsRow base e size v n xs) (hb : Below w.heap.size w w') : w'.ownsRow base e size v n xs :=
  h.kept (grownBy_below hb none) (by cases v.ownBlock <;> simp)
theorem below_dr {B : Nat} {a w w' : World} (h : Below B a w) (hd : Dr w w') : Below B a w' := by obtain ⟨m, rfl⟩ := hd; exact below_drewN h m
/-- The books lie in block N; v owns the findings fs. -/
def RSt (w : World) (N : Nat) (bk : List Value) (fs : List Fnd) (v : Value) (wr : World) : Prop :=
  Below N w wr ∧ N < wr.heap.size ∧ Blk wr N 40 bk ∧ wr.ownsRow N 49 3 v fs.length (fs.flatMap fnC)
section
variable {w wr w' : World} {N : Nat} {bk : List Value} {fs : List Fnd} {v : Value}
theorem RSt.later (h : RSt w N bk fs v wr) (hb : Below wr.heap.size wr w') : RSt w N bk fs v w' :=
  ⟨h.1.trans (hb.mono (Nat.le_of_lt h.2.1)), Nat.lt_of_lt_of_le h.2.1 hb.size, h.2.2.1.below hb h.2.2.1.lt, own_after h.2.2.2 hb⟩
theorem RSt.alloc (h : RSt w N bk fs v wr) (o : Obj) : RSt w N bk fs v (wr.alloc o) := h.later ((Below.refl _ _).alloc (Nat.le_refl _) _)
theorem RSt.dr (h : RSt w N bk fs v wr) (hd : Dr wr w') : RSt w N bk fs v w' := by
  obtain ⟨m, rfl⟩ := hd
  exact ⟨below_drewN h.1 m, h.2.1, h.2.2.1, h.2.2.2⟩
theorem RSt.push {f : Fnd} {v' : Value} (h : RSt w N bk fs v wr) (hown : w'.ownsRow N 49 3 v' (fs.length + 1) (fs.flatMap fnC ++ fnC f)) (hg : (wr.alloc (.cells (fnC f).toArray 49)).grownBy w' v.ownBlock) : RSt w N bk (fs ++ [f]) v' w' := by
  obtain ⟨a, b, c, e⟩ := h
  refine ⟨(a.alloc (Nat.le_of_lt b) _).grown hg (by simp; omega) (fun k hk => (e.lt k hk).1), Nat.lt_of_lt_of_le b (Nat.le_trans (by simp) hg.size), (c.alloc _).grown hg (own_blk_ne e c (by decide)), by simpa using hown⟩
end
theorem rst_start {w : World} {bk : List Value} : RSt w w.heap.size bk [] (.slice (some ⟨w.heap.size + 1, 0, none⟩) 0 0) ((w.alloc (.cells bk.toArray 40)).alloc (.cells #[] 49)) := by
  have h0 := Blk.new w 40 bk
  have h1 := World.ownsRow_made (w.alloc (.cells bk.toArray 40)) (base := w.heap.size) (e := 49) (size := 3) #[] 0 (by simp) (by unfold maxLen; omega) rfl
  simp only [World.size_alloc] at h1
  exact ⟨((Below.refl _ _).alloc (Nat.le_refl _) _).alloc (by simp) _, by simp; omega, h0.alloc _, h1⟩
theorem fnC_one (f : Fnd) : ∀ u ∈ fnC f, u.oneCell' = true := fun u hu => by simp [fnC] at hu; rcases hu with rfl | rfl | rfl <;> rfl
/-- One finding appended: what wl_append asks. -/
theorem wl_push {n : Nat} {Q : Exit → Act → World → Prop} {ops : Array Oper} {rest : List Oper} {e : Env} {ty : TypeId} {ps : String} {af : Array Edge} {g : Option (Nat × Bool)} {d : Option Tmp} {w wr w1 : World} {N : Nat} {bk : List Value} {fs : List Fnd} {v : Value} (dd : Nat) {s x : Operand} (f : Fnd)
    (hc : chk ops e n ⟨d, .call ⟨.builtin .append, #[s, x], #[41, 41]⟩, ty, ps, af, g⟩ dd true = true) (hs : eev e s = v) (hx : eev e x = .slice (some ⟨wr.heap.size, 0, none⟩) 1 1)
    (hS : RSt w N bk fs v wr) (hw1 : w1 = wr.alloc (.cells (fnC f).toArray 49)) (hlen : fs.length < 1000000)
    (next : ∀ v' w', RSt w N bk (fs ++ [f]) v' w' → wl Tryd.prog n ops Q rest ((dd, v') :: e) w') : wl Tryd.prog n ops Q (⟨d, .call ⟨.builtin .append, #[s, x], #[41, 41]⟩, ty, ps, af, g⟩ :: rest) e w1 := by
  subst hw1
  refine wl_append (el := 49) (size := 3) (bytes := 24) (base := N) (k := fs.length) (xs := fs.flatMap fnC) (news := fnC f) dd hc (by kernel_rfl) hs (hS.2.2.2.alloc _) hx rfl (fun j u hu => new_cells wr (fnC f) _ j u hu) (fnC_one f) (by unfold maxLen; omega) (by omega) (by simp; have := hS.2.1; omega) fun v' w' ho hg => next v' w' (hS.push ho hg)
end Go.Proofs.YtahnplemladjeaaDoor
