/- Contracts of the small functions of layer 59: tests on spans and transfers, the collector of findings, Same. -/
import Derived.Test.YtbnimhmoffchdaaGreatDoorKA
namespace Go.Proofs.YtbnimhmoffchdaaGreatDoor
open Go.RowKit

structure Fnd where
  kind : Int
  a : Int
  b : Int
def fnC (f : Fnd) : List Value := [.int .i64 f.kind, .int .i64 f.a, .int .i64 f.b]
theorem fnd_info : (Tryz.prog.info? 64).map (fun i => (i.zero, i.size, i.bytes)) = some (some (.agg #[.int .i64 0, .int .i64 0, .int .i64 0]), 3, 24) := by kernel_rfl

def validB (lo hi : Int) : Bool := decide (0 ≤ lo ∧ lo ≤ hi ∧ hi ≤ 70368744177664)
def invalidB (f t lo hi : Int) : Bool := decide (f < 0 ∨ 7 ≤ f ∨ t < 0 ∨ 7 ≤ t ∨ f = t ∨ ¬ (0 ≤ lo ∧ lo ≤ hi ∧ hi ≤ 70368744177664))
def withinB (lo hi n : Int) : Bool := decide (lo ≤ n ∧ n ≤ hi)
def spanB (lo hi : Int) : Bool := decide (-70368744177664 ≤ lo ∧ lo ≤ hi ∧ hi ≤ 70368744177664)

set_option maxHeartbeats 400000 in
theorem spanValid_any (lo hi : Int) (w : World) :
    Calls Tryz.prog 41 #[.agg #[.int .i64 lo, .int .i64 hi]] w fun e w' => e = .returned (.bool (spanB lo hi)) ∧ w.alloc (.cells #[.int .i64 lo, .int .i64 hi] 58) = w' := by
  go_enter Tryz.func41, Tryz.ntmps41
  go_wp2
  all_goals (go_ret; exact ⟨ret_bool (by rw [Bool.eq_iff_iff]; simp [spanB] <;> omega), rfl⟩)

set_option maxHeartbeats 400000 in
theorem within2_any (lo hi n : Int) (w : World) :
    Calls Tryz.prog 42 #[.agg #[.int .i64 lo, .int .i64 hi], .int .i64 n] w fun e w' => e = .returned (.bool (withinB lo hi n)) ∧ w.alloc (.cells #[.int .i64 lo, .int .i64 hi] 58) = w' := by
  go_enter Tryz.func42, Tryz.ntmps42
  go_wp2
  all_goals (go_ret; exact ⟨ret_bool (by rw [Bool.eq_iff_iff]; simp [withinB] <;> omega), rfl⟩)

set_option maxHeartbeats 400000 in
theorem massOk_any (n : Int) (w : World) :
    Calls Tryz.prog 43 #[.int .i64 n] w fun e w' => e = .returned (.bool (withinB 0 70368744177664 n)) ∧ w = w' := by
  go_enter Tryz.func43, Tryz.ntmps43
  go_wp2
  all_goals (go_ret; exact ⟨ret_bool (by rw [Bool.eq_iff_iff]; simp [withinB] <;> omega), rfl⟩)

/-- collector: a function value that has captured a new variable which holds the pointer. -/
theorem collector_any (p : Addr) (w : World) :
    Calls Tryz.prog 21 #[.pointer (some p)] w fun e w' => e = .returned (.func (Fn.func 58) #[] #[.pointer (some ⟨w.heap.size, 0, none⟩)]) ∧ w.alloc (.cells #[.pointer (some p)] 70) = w' := by
  go_enter Tryz.func21, Tryz.ntmps21
  go_wp2
  go_ret
  exact ⟨rfl, rfl⟩

/-- The findings that have been collected: variable out (block Bo) is reached through the captured pointer (block Bl) and owns the row of the findings. -/
def Out (w : World) (base Bo Bl : Nat) (fs : List Fnd) : Prop :=
  base ≤ Bo ∧ Blk w Bl 70 [.pointer (some ⟨Bo, 0, none⟩)] ∧ ∃ v, Blk w Bo 43 [v] ∧ w.ownsRow base 64 3 v fs.length (fs.flatMap fnC)

theorem own_setCell_other {w : World} {base : Nat} {e : TypeId} {size : Nat} {v : Value} {n : Nat} {xs : List Value} (h : w.ownsRow base e size v n xs) {a : Addr} (ha : some a.block ≠ v.ownBlock) (u : Value) : (w.setCell a u).ownsRow base e size v n xs :=
  h.kept (row := some a.block) ⟨rfl, rfl, rfl, by simp [World.setCell], fun k _ hk => Below.heap_setCell _ _ _ _ (fun e => hk (by rw [e]))⟩ (by
    by_cases hv : v.ownBlock = none
    · exact .inl hv
    · exact .inr (fun e => ha e.symm))

theorem found_out {w w1 : World} {base Bo Bl g cap : Nat} {v : Value} {fs : List Fnd} {f : Fnd} (hbase : base ≤ Bo) (hl : Blk w Bl 70 [.pointer (some ⟨Bo, 0, none⟩)]) (ho : Blk w Bo 43 [v])
    (hown : w.ownsRow base 64 3 v fs.length (fs.flatMap fnC)) (hown1 : w1.ownsRow base 64 3 (.slice (some ⟨g, 0, none⟩) (fs.length + 1) cap) (fs.length + 1) (fs.flatMap fnC ++ fnC f))
    (hg : ((w.alloc (.cells (fnC f).toArray 64)).drew).grownBy w1 v.ownBlock) :
    Out (w1.setCell ⟨Bo, 0, none⟩ (.slice (some ⟨g, 0, none⟩) (fs.length + 1) cap)) base Bo Bl (fs ++ [f]) ∧ Kp [43, 64] base w (w1.setCell ⟨Bo, 0, none⟩ (.slice (some ⟨g, 0, none⟩) (fs.length + 1) cap)) := by
  have keep : ∀ {g' : Nat} {t' : TypeId} {cs : List Value}, t' ≠ 64 → Blk w g' t' cs → Blk w1 g' t' cs := fun ht h => (h.alloc _).drew.grown hg (own_blk_ne hown h (fun e => ht e.symm))
  have ho1 := keep (by decide) ho
  have hl1 := keep (by decide) hl
  have hbs : base ≤ w.heap.size := Nat.le_trans hbase (Nat.le_of_lt ho.lt)
  refine ⟨⟨hbase, hl1.far (hl.ne_ ho (by decide)) _, _, ho1.set_ 0 _, ?_⟩, ⟨?_, ?_⟩⟩
  · have := own_setCell_other hown1 (a := ⟨Bo, 0, none⟩) (own_blk_ne hown1 ho1 (by decide)) (.slice (some ⟨g, 0, none⟩) (fs.length + 1) cap)
    simpa using this
  · refine (((((Below.refl base w).alloc hbs _).drew).grown hg (by simp; omega) ?_)).setCell (p := ⟨Bo, 0, none⟩) hbase _
    intro k hk
    exact (hown.lt k hk).1
  · intro g' t' cs ht h
    simp at ht
    exact (keep ht.2 h).far (h.ne_ ho ht.1) _

set_option maxHeartbeats 800000 in
theorem found_any (kd x y : Int) (base Bo Bl : Nat) (fs : List Fnd) (w : World) (hO : Out w base Bo Bl fs) (hlen : fs.length < 1000000) :
    Calls Tryz.prog 58 #[.int .i64 kd, .int .i64 x, .int .i64 y, .pointer (some ⟨Bl, 0, none⟩)] w fun e w' => e = .returned (.tuple #[]) ∧ Out w' base Bo Bl (fs ++ [⟨kd, x, y⟩]) ∧ Kp [43, 64] base w w' := by
  obtain ⟨hbase, hl, v, ho, hown⟩ := hO
  obtain ⟨i0, hi0, hz0, hz1, hz2⟩ := info_parts fnd_info
  have c1 : w.cell? ⟨Bl, 0, none⟩ = some (.pointer (some ⟨Bo, 0, none⟩)) := hl.at_ 0 rfl
  have c2 : w.cell? ⟨Bo, 0, none⟩ = some v := ho.at_ 0 rfl
  have f2 : w.frozen? ⟨Bo, 0, none⟩ = false := ho.free 0
  have c1a : ∀ o, (w.alloc o).cell? ⟨Bl, 0, none⟩ = some (.pointer (some ⟨Bo, 0, none⟩)) := fun o => (hl.alloc o).at_ 0 rfl
  have c2a : ∀ o, (w.alloc o).cell? ⟨Bo, 0, none⟩ = some v := fun o => (ho.alloc o).at_ 0 rfl
  have hv : ∃ A n c, v = .slice A n c := by
    rcases hown.2 with ⟨rfl, _⟩ | ⟨g, cap, cur, rfl, _⟩
    · exact ⟨_, _, _, rfl⟩
    · exact ⟨_, _, _, rfl⟩
  obtain ⟨A, n, c, rfl⟩ := hv
  go_enter Tryz.func58, Tryz.ntmps58
  go_wp2_with fail
  have hn1 := Lib.hid (fun j u hu => new_cells w (fnC ⟨kd, x, y⟩) 64 j u hu)
  have ho1 := Lib.hid (hown.alloc (.cells (fnC ⟨kd, x, y⟩).toArray 64))
  have h1c : Hid (∀ u ∈ fnC ⟨kd, x, y⟩, u.oneCell' = true) := fun u hu => by simp [fnC] at hu; rcases hu with rfl | rfl | rfl <;> rfl
  have hl1 : Hid (fs.length + 1 ≤ maxLen) := by unfold maxLen; exact (by omega : fs.length + 1 ≤ 9223372036854775807)
  have hb1 : Hid (base ≤ w.heap.size) := Nat.le_trans hbase (Nat.le_of_lt ho.lt)
  have hne := Lib.hid (own_blk_ne hown ho (by decide))
  have hnl := Lib.hid (own_blk_ne hown hl (by decide))
  go_region_law (refine step_append_lies _ rfl (.tmp 10) (.tmp 15) 43 rfl base 64 i0 _ 3 24 Tryz.underlying43 hi0 hz0 hz1 hz2 rfl (by omega) (.slice A n c) fs.length (fs.flatMap fnC) (by simp [Act.eval]) ho1.out ⟨w.heap.size, 0, none⟩ 1 1 (fnC ⟨kd, x, y⟩) (by simp [Act.eval]) rfl hn1.out h1c.out (by omega) hl1.out (by omega) (by simp; exact Nat.le_succ_of_le hb1.out) _ rfl ?_; intro g cap w1 hown1 hg1 hat1 hlt1; have c3 := ((ho.alloc (.cells (fnC ⟨kd, x, y⟩).toArray 64)).drew.grown hg1 hne.out).at_ 0 rfl; have f3 := ((ho.alloc (.cells (fnC ⟨kd, x, y⟩).toArray 64)).drew.grown hg1 hne.out).free 0; have c4 := ((hl.alloc (.cells (fnC ⟨kd, x, y⟩).toArray 64)).drew.grown hg1 hnl.out).at_ 0 rfl; have hown2 := Lib.hid hown1; have hg2 := Lib.hid hg1; clear hown1 hg1 hat1)
  all_goals (go_end0; refine ⟨rfl, found_out hbase hl ho hown hown2.out hg2.out⟩)
end Go.Proofs.YtbnimhmoffchdaaGreatDoor
