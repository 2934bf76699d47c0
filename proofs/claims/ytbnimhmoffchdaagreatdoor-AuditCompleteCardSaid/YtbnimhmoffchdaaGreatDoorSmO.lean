/- Contracts of the small functions of layer 59: tests on spans and transfers, the collector of findings, Same. -/
import Derived.Test.YtbnimhmoffchdaaGreatDoorKA
namespace Go.Proofs.YtbnimhmoffchdaaGreatDoor
open Go.RowKit

structure Fnd where
 kind : Int
 a : Int
 b : Int
def fnC (f : Fnd) : List Value := [.int .i64 f.kind, .int .i64 f.a, .int .i64 f.b]
theorem fnd_info : (Tryz.prog.info? 64).map (fun i => (i.zero, i.size, i.bytes)) = some (some (.agg #[.int .i64 0, .int .i64 0, .int .i64 0]), 3, 24) := by kernel_rfl

def validB (lo hi : Int) : Bool := decide (0 ≤ lo ∧ lo ≤ hi ∧ hi ≤ 70368744177664)
def invalidB (f t lo hi : Int) : Bool := decide (f < 0 ∨ 7 ≤ f ∨ t < 0 ∨ 7 ≤ t ∨ f = t ∨ ¬ (0 ≤ lo ∧ lo ≤ hi ∧ hi ≤ 70368744177664))
def withinB (lo hi n : Int) : Bool := decide (lo ≤ n ∧ n ≤ hi)
def spanB (lo hi : Int) : Bool := decide (-70368744177664 ≤ lo ∧ lo ≤ hi ∧ hi ≤ 70368744177664)

set_option maxHeartbeats 400000 in
theorem spanValid_any (lo hi : Int) (w : World) :
  Calls Tryz.prog 41 #[.agg #[.int .i64 lo, .int .i64 hi]] w fun e w' => e = .returned (.bool (spanB lo hi)) ∧ w.alloc (.cells #[.int .i64 lo, .int .i64 hi] 58) = w' := by
 go_enter Tryz.func41, Tryz.ntmps41
 go_wp2
 all_goals (go_ret; exact ⟨ret_bool (by rw [Bool.eq_iff_iff]; simp [spanB] <;> omega), rfl⟩)

set_option maxHeartbeats 400000 in
theorem within2_any (lo hi n : Int) (w : World) :
  Calls Tryz.prog 42 #[.agg #[.int .i64 lo, .int .i64 hi], .int .i64 n] w fun e w' => e = .returned (.bool (withinB lo hi n)) ∧ w.alloc (.cells #[.int .i64 lo, .int .i64 hi] 58) = w' := by
 go_enter Tryz.func42, Tryz.ntmps42
 go_wp2
 all_goals (go_ret; exact ⟨ret_bool (by rw [Bool.eq_iff_iff]; simp [withinB] <;> omega), rfl⟩)

set_option maxHeartbeats 400000 in
theorem massOk_any (n : Int) (w : World) :
  Calls Tryz.prog 43 #[.int .i64 n] w fun e w' => e = .returned (.bool (withinB 0 70368744177664 n)) ∧ w = w' := by
 go_enter Tryz.func43, Tryz.ntmps43
 go_wp2
 all_goals (go_ret; exact ⟨ret_bool (by rw [Bool.eq_iff_iff]; simp [withinB] <;> omega), rfl⟩)

/-- collector: a function value that has captured a new variable which holds the pointer. -/
theorem collector_any (p : Addr) (w : World) :
  Calls Tryz.prog 21 #[.pointer (some p)] w fun e w' => e = .returned (.func (Fn.func 58) #[] #[.pointer (some ⟨w.heap.size, 0, none⟩)]) ∧ w.alloc (.cells #[.pointer (some p)] 70) = w' := by
 go_enter Tryz.func21, Tryz.ntmps21
 go_wp2
 go_ret
 exact ⟨rfl, rfl⟩

/-- The findings that have been collected: variable out (block Bo) is reached through the captured pointer (block Bl) and owns the row of the findings. -/
def Out (w : World) (base Bo Bl : Nat) (fs : List Fnd) : Prop :=
 base ≤ Bo ∧ Blk w Bl 70 [.pointer (some ⟨Bo, 0, none⟩)] ∧ ∃ v, Blk w Bo 43 [v] ∧ w.ownsRow base 64 3 v fs.length (fs.flatMap fnC)

theorem own_setCell_other {w : World} {base : Nat} {e : TypeId} {size : Nat} {v : Value} {n : Nat} {xs : List Value} (h : w.ownsRow base e size v n xs) {a : Addr} (ha : some a.block ≠ v.ownBlock) (u : Value) : (w.setCell a u).ownsRow base e size v n xs :=
 h.kept (row := some a.block) ⟨rfl, rfl, rfl, by simp [World.setCell], fun k _ hk => Below.heap_setCell _ _ _ _ (fun e => hk (by rw [e]))⟩ (by
  by_cases hv : v.ownBlock = none
  ·exact .inl hv
  ·exact .inr (fun e => ha e.symm))

theorem found_out {w w1 : World} {base Bo Bl g cap : Nat} {v : Value} {fs : List Fnd} {f : Fnd} (hbase : base ≤ Bo) (hl : Blk w Bl 70 [.pointer (some ⟨Bo, 0, none⟩)]) (ho : Blk w Bo 43 [v])
  (hown : w.ownsRow base 64 3 v fs.length (fs.flatMap fnC)) (hown1 : w1.ownsRow base 64 3 (.slice (some ⟨g, 0, none⟩) (fs.length + 1) cap) (fs.length + 1) (fs.flatMap fnC ++ fnC f))
  (hg : ((w.alloc (.cells (fnC f).toArray 64)).drew).grownBy w1 v.ownBlock) :
  Out (w1.setCell ⟨Bo, 0, none⟩ (.slice (some ⟨g, 0, none⟩) (fs.length + 1) cap)) base Bo Bl (fs ++ [f]) ∧ Kp [43, 64] base w (w1.setCell ⟨Bo, 0, none⟩ (.slice (some ⟨g, 0, none⟩) (fs.length + 1) cap)) := by
 have keep : ∀ {g' : Nat} {t' : TypeId} {cs : List Value}, t' ≠ 64 → Blk w g' t' cs → Blk w1 g' t' cs := fun ht h => (h.alloc _).drew.grown hg (own_blk_ne hown h (fun e => ht e.symm))
 have ho1 := keep (by decide) ho
 have hl1 := keep (by decide) hl
 have hbs : base ≤ w.heap.size := Nat.le_trans hbase (Nat.le_of_lt ho.lt)
 refine ⟨⟨hbase, hl1.far (hl.ne_ ho (by decide)) _, _, ho1.set_ 0 _, ?_⟩, ⟨?_, ?_⟩⟩
 ·have := own_setCell_other hown1 (a := ⟨Bo, 0, none⟩) (own_blk_ne hown1 ho1 (by decide)) (.slice (some ⟨g, 0, none⟩) (fs.length + 1) cap)
  simpa using this
 ·refine (((((Below.refl base w).alloc hbs _).drew).grown hg (by simp; omega) ?_)).setCell (p := ⟨Bo, 0, none⟩) hbase _
  intro k hk
  exact (hown.lt k hk).1
 ·intro g' t' cs ht h
  simp at ht
  exact (keep ht.2 h).far (h.ne_ ho ht.1) _

set_option maxHeartbeats 800000 in
theorem found_any (kd x y : Int) (base Bo Bl : Nat) (fs : List Fnd) (w : World) (hO : Out w base Bo Bl fs) (hlen : fs.length < 1000000) :
  Calls Tryz.prog 58 #[.int .i64 kd, .int .i64 x, .int .i64 y, .pointer (some ⟨Bl, 0, none⟩)] w fun e w' => e = .returned (.tuple #[]) ∧ Out w' base Bo Bl (fs ++ [⟨kd, x, y⟩]) ∧ Kp [43, 64] base w w' := by
 obtain ⟨hbase, hl, v, ho, hown⟩ := hO
 obtain ⟨i0, hi0, hz0, hz1, hz2⟩ := info_parts fnd_info
 have c1 : w.cell? ⟨Bl, 0, none⟩ = some (.pointer (some ⟨Bo, 0, none⟩)) := hl.at_ 0 rfl
 have c2 : w.cell? ⟨Bo, 0, none⟩ = some v := ho.at_ 0 rfl
 have f2 : w.frozen? ⟨Bo, 0, none⟩ = false := ho.free 0
 have c1a : ∀ o, (w.alloc o).cell? ⟨Bl, 0, none⟩ = some (.pointer (some ⟨Bo, 0, none⟩)) := fun o => (hl.alloc o).at_ 0 rfl
 have c2a : ∀ o, (w.alloc o).cell? ⟨Bo, 0, none⟩ = some v := fun o => (ho.alloc o).at_ 0 rfl
 have hv : ∃ A n c, v = .slice A n c := by
  rcases hown.2 with ⟨rfl, _⟩ | ⟨g, cap, cur, rfl, _⟩
  ·exact ⟨_, _, _, rfl⟩
  ·exact ⟨_, _, _, rfl⟩
 obtain ⟨A, n, c, rfl⟩ := hv
 go_enter Tryz.func58, Tryz.ntmps58
 go_wp2_with fail
 have hn1 := Lib.hid (fun j u hu => new_cells w (fnC ⟨kd, x, y⟩) 64 j u hu)
 have ho1 := Lib.hid (hown.alloc (.cells (fnC ⟨kd, x, y⟩).toArray 64))
 have h1c : Hid (∀ u ∈ fnC ⟨kd, x, y⟩, u.oneCell' = true) := fun u hu => by simp [fnC] at hu; rcases hu with rfl | rfl | rfl <;> rfl
 have hl1 : Hid (fs.length + 1 ≤ maxLen) := by unfold maxLen; exact (by omega : fs.length + 1 ≤ 9223372036854775807)
 have hb1 : Hid (base ≤ w.heap.size) := Nat.le_trans hbase (Nat.le_of_lt ho.lt)
 have hne := Lib.hid (own_blk_ne hown ho (by decide))
 have hnl := Lib.hid (own_blk_ne hown hl (by decide))
 go_region_law (refine step_append_lies _ rfl (.tmp 10) (.tmp 15) 43 rfl base 64 i0 _ 3 24 Tryz.underlying43 hi0 hz0 hz1 hz2 rfl (by omega) (.slice A n c) fs.length (fs.flatMap fnC) (by simp [Act.eval]) ho1.out ⟨w.heap.size, 0, none⟩ 1 1 (fnC ⟨kd, x, y⟩) (by simp [Act.eval]) rfl hn1.out h1c.out (by omega) hl1.out (by omega) (by simp; exact Nat.le_succ_of_le hb1.out) _ rfl ?_; intro g cap w1 hown1 hg1 hat1 hlt1; have c3 := ((ho.alloc (.cells (fnC ⟨kd, x, y⟩).toArray 64)).drew.grown hg1 hne.out).at_ 0 rfl; have f3 := ((ho.alloc (.cells (fnC ⟨kd, x, y⟩).toArray 64)).drew.grown hg1 hne.out).free 0; have c4 := ((hl.alloc (.cells (fnC ⟨kd, x, y⟩).toArray 64)).drew.grown hg1 hnl.out).at_ 0 rfl; have hown2 := Lib.hid hown1; have hg2 := Lib.hid hg1; clear hown1 hg1 hat1)
 all_goals (go_end0; refine ⟨rfl, found_out hbase hl ho hown hown2.out hg2.out⟩)
end Go.Proofs.YtbnimhmoffchdaaGreatDoor
namespace Go.Proofs.YtbnimhmoffchdaaGreatDoor
open Go.RowKit

structure Tr where
 f : Int
 t : Int
 lo : Int
 hi : Int
def trC (x : Tr) : List Value := [.int .i64 x.f, .int .i64 x.t, .int .i64 x.lo, .int .i64 x.hi]
def Tr.bad (x : Tr) : Bool := invalidB x.f x.t x.lo x.hi
def upd {α : Type} (S : Nat → α) (i : Nat) (v : α) : Nat → α := fun j => if j = i then v else S j
def stepFrom (S : Nat → Int) (x : Tr) : Nat → Int := upd (upd S (x.f.toNat * 2) (S (x.f.toNat * 2) - x.hi)) (x.f.toNat * 2 + 1) (S (x.f.toNat * 2 + 1) - x.lo)
def stepTo (S : Nat → Int) (x : Tr) : Nat → Int := upd (upd S (x.t.toNat * 2) (S (x.t.toNat * 2) + x.lo)) (x.t.toNat * 2 + 1) (S (x.t.toNat * 2 + 1) + x.hi)
def stepS (S : Nat → Int) (x : Tr) : Nat → Int := if x.bad then S else stepTo (stepFrom S x) x
def stk (ts : List Tr) : Nat → Int := ts.foldl stepS (fun _ => 0)
theorem stk_snoc (ts : List Tr) (x : Tr) : stk (ts ++ [x]) = stepS (stk ts) x := by simp [stk]
theorem good_of {x : Tr} (h : x.bad = false) : 0 ≤ x.f ∧ x.f < 7 ∧ 0 ≤ x.t ∧ x.t < 7 ∧ x.f ≠ x.t ∧ 0 ≤ x.lo ∧ x.lo ≤ x.hi ∧ x.hi ≤ 70368744177664 := by
 simp [Tr.bad, invalidB] at h; omega
/-- Stocks stay within count times the greatest mass. -/
def Bd (m : Nat) (S : Nat → Int) : Prop := ∀ j, -((m : Int) * 70368744177664) ≤ S j ∧ S j ≤ (m : Int) * 70368744177664
theorem Bd_mono {m n : Nat} {S : Nat → Int} (h : Bd m S) (hn : m ≤ n) : Bd n S := by
 intro j; have := h j; omega
theorem Bd_step {m : Nat} {S : Nat → Int} (h : Bd m S) (x : Tr) : Bd (m + 1) (stepS S x) := by
 unfold stepS
 split
 ·exact Bd_mono h (by omega)
 ·rename_i hb
  have g := good_of (by simpa using hb)
  intro j
  have a1 := h (x.f.toNat * 2)
  have a2 := h (x.f.toNat * 2 + 1)
  have a3 := h (x.t.toNat * 2)
  have a4 := h (x.t.toNat * 2 + 1)
  have a5 := h j
  unfold stepTo stepFrom upd
  repeat' split
  all_goals omega
theorem stk_bd (ts : List Tr) : Bd ts.length (stk ts) := by
 have gen : ∀ (l : List Tr) (m : Nat) (S : Nat → Int), Bd m S → Bd (m + l.length) (l.foldl stepS S) := by
  intro l
  induction l with
  | nil => intro m S h; simpa using h
  | cons x l ih => intro m S h; have := ih (m + 1) _ (Bd_step h x); simp only [List.foldl_cons, List.length_cons]; rw [show m + (l.length + 1) = m + 1 + l.length from by omega]; exact this
 have := gen ts 0 (fun _ => 0) (fun j => by simp)
 rw [Nat.zero_add] at this
 exact this

/-- The nodes that have a finding, and the findings, after the first k transfers. -/
def stepO (ts : List Tr) (k : Nat) (x : Tr) (o : (Nat → Bool) × List Fnd) : (Nat → Bool) × List Fnd :=
 if x.bad then (o.1, o.2 ++ [⟨1, k, 0⟩])
 else if x.f ≠ 0 ∧ stk (ts.take (k + 1)) (x.f.toNat * 2 + 1) < 0 ∧ o.1 x.f.toNat = false then (upd o.1 x.f.toNat true, o.2 ++ [⟨2, x.f, k⟩])
 else o
def outs (ts : List Tr) : Nat → (Nat → Bool) × List Fnd
 | 0 => (fun _ => false, [])
 | k + 1 => match ts[k]? with
  | none => outs ts k
  | some x => stepO ts k x (outs ts k)
theorem outs_succ {ts : List Tr} {k : Nat} {x : Tr} (h : ts[k]? = some x) : outs ts (k + 1) = stepO ts k x (outs ts k) := by simp [outs, h]
theorem outs_le (ts : List Tr) (k : Nat) : (outs ts k).2.length ≤ k := by
 induction k with
 | zero => simp [outs]
 | succ k ih =>
  cases h : ts[k]? with
  | none => simp only [outs, h]; omega
  | some x =>
   rw [outs_succ h]; unfold stepO
   split
   ·simp; omega
   ·split
    ·simp; omega
    ·omega

/-- The sum of the bales' masses while all are in range. -/
def accStep (a : Int × Bool) (n : Int) : Int × Bool :=
 (if a.2 && (decide (0 ≤ n) && decide (n ≤ 1073741824)) then wrap64 (a.1 + n) else a.1, a.2 && (decide (0 ≤ n) && decide (n ≤ 1073741824)))
def acc (l : List Int) : Int × Bool := l.foldl accStep (0, true)
theorem acc_snoc (l : List Int) (n : Int) : acc (l ++ [n]) = accStep (acc l) n := by simp [acc]
structure Bale where
 id : Int
 mat : Int
 at_ : Int
 mix : List Int
def mixes (bs : List Bale) : List Int := bs.flatMap (·.mix)
theorem mixes_snoc (bs : List Bale) (x : Bale) : mixes (bs ++ [x]) = mixes bs ++ x.mix := by simp [mixes]

def plantBad (ts : List Tr) (ins bins : Int) : Bool :=
 !withinB 0 70368744177664 ins || !withinB 0 70368744177664 bins || !withinB (stk ts 6) (stk ts 7) (ins + bins)
def balesBad (ts : List Tr) (bs : List Bale) : Bool :=
 !(acc (mixes bs)).2 || !withinB (stk ts 8) (stk ts 9) (acc (mixes bs)).1
def massF (ts : List Tr) (ins bins : Int) (bs : List Bale) : List Fnd :=
 (outs ts ts.length).2 ++ (if plantBad ts ins bins then [⟨3, 0, 0⟩] else []) ++ (if balesBad ts bs then [⟨4, 0, 0⟩] else [])
theorem massF_le (ts : List Tr) (ins bins : Int) (bs : List Bale) : (massF ts ins bins bs).length ≤ ts.length + 2 := by
 have := outs_le ts ts.length
 unfold massF
 simp only [List.length_append]
 split <;> split <;> simp <;> omega

/-- Cells of the program's two arrays. -/
def stC (S : Nat → Int) : List Value := (List.range 14).map fun i => .int .i64 (S i)
def toC (T : Nat → Bool) : List Value := (List.range 7).map fun i => .bool (T i)
theorem stC_get (S : Nat → Int) {i : Nat} (h : i < 14) : (stC S)[i]? = some (.int .i64 (S i)) := by simp [stC, h]
theorem toC_get (T : Nat → Bool) {i : Nat} (h : i < 7) : (toC T)[i]? = some (.bool (T i)) := by simp [toC, h]
theorem map_set {α β : Type} (g : α → β) (S : Nat → α) (n i : Nat) (v : α) : ((List.range n).map fun j => g (S j)).set i (g v) = (List.range n).map fun j => g (upd S i v j) := by
 apply List.ext_getElem?
 intro j
 rw [List.getElem?_set]
 by_cases hj : j < n
 ·simp only [List.length_map, List.length_range, List.getElem?_map, List.getElem?_range hj, Option.map_some, upd]
  by_cases e : i = j
  ·subst e; simp [hj]
  ·rw [if_neg e, if_neg (fun h : j = i => e h.symm)]
 ·have : (List.range n)[j]? = none := by simp; omega
  simp [this]; intro _; omega
theorem stC_set (S : Nat → Int) (i : Nat) (v : Int) : (stC S).set i (.int .i64 v) = stC (upd S i v) := map_set (Value.int .i64) S 14 i v
theorem toC_set (T : Nat → Bool) (i : Nat) (v : Bool) : (toC T).set i (.bool v) = toC (upd T i v) := map_set Value.bool T 7 i v
end Go.Proofs.YtbnimhmoffchdaaGreatDoor
namespace Go.Proofs.YtbnimhmoffchdaaGreatDoor
open Go.RowKit

theorem stk_good {ts : List Tr} {k : Nat} {x : Tr} (hx : ts[k]? = some x) (hb : ¬ x.bad = true) : stk (ts.take (k + 1)) = stepTo (stepFrom (stk (ts.take k)) x) x := by
 rw [take_snoc hx, stk_snoc]; simp [stepS, hb]
theorem stk_bad {ts : List Tr} {k : Nat} {x : Tr} (hx : ts[k]? = some x) (hb : x.bad = true) : stk (ts.take (k + 1)) = stk (ts.take k) := by
 rw [take_snoc hx, stk_snoc]; simp [stepS, hb]
theorem outs_bad {ts : List Tr} {k : Nat} {x : Tr} (hx : ts[k]? = some x) (hb : x.bad = true) : outs ts (k + 1) = ((outs ts k).1, (outs ts k).2 ++ [⟨1, k, 0⟩]) := by
 rw [outs_succ hx]; simp [stepO, hb]
theorem outs_neg {ts : List Tr} {k : Nat} {x : Tr} (hx : ts[k]? = some x) (hb : ¬ x.bad = true) (h : x.f ≠ 0 ∧ stepTo (stepFrom (stk (ts.take k)) x) x (x.f.toNat * 2 + 1) < 0 ∧ (outs ts k).1 x.f.toNat = false) :
  outs ts (k + 1) = (upd (outs ts k).1 x.f.toNat true, (outs ts k).2 ++ [⟨2, x.f, k⟩]) := by
 rw [outs_succ hx]; unfold stepO; rw [stk_good hx hb, if_neg hb, if_pos h]
theorem outs_not {ts : List Tr} {k : Nat} {x : Tr} (hx : ts[k]? = some x) (hb : ¬ x.bad = true) (h : ¬ (x.f ≠ 0 ∧ stepTo (stepFrom (stk (ts.take k)) x) x (x.f.toNat * 2 + 1) < 0 ∧ (outs ts k).1 x.f.toNat = false)) : outs ts (k + 1) = outs ts k := by
 rw [outs_succ hx]; unfold stepO; rw [stk_good hx hb, if_neg hb, if_neg h]
def IntR (n : Int) (cs : List Value) : Prop := cs = [.int .i64 n]
/-- A bale's four cells; its mix lies below B and reads as a list. -/
def BaR (w : World) (B : Nat) (x : Bale) (cs : List Value) : Prop := ∃ A c, cs = [.int .i64 x.id, .int .i64 x.mat, .int .i64 x.at_, .slice A x.mix.length c] ∧ Rd w B 1 IntR A x.mix
theorem BaR.below {w w' : World} {B : Nat} (hb : Below B w w') (x : Bale) (cs : List Value) (h : BaR w B x cs) : BaR w' B x cs := by
 obtain ⟨A, c, e, h⟩ := h
 exact ⟨A, c, e, h.below hb⟩
theorem int_cell {w : World} {B : Nat} {A : Option Addr} {xs : List Int} {j : Nat} {n : Int} (h : Rd w B 1 IntR A xs) (hx : xs[j]? = some n) : ∃ b off, A = some ⟨b, off, none⟩ ∧ b < B ∧ w.cell? ⟨b, off + j, none⟩ = some (.int .i64 n) := by
 obtain ⟨b, off, e, hb, cs, _, rfl, hc⟩ := h.at_ hx
 have := hc 0 _ rfl
 simp only [Nat.mul_one, Nat.add_zero] at this
 exact ⟨b, off, e, hb, this⟩
theorem ba_cells {w : World} {B : Nat} {A : Option Addr} {bs : List Bale} {k : Nat} {x : Bale} (h : Rd w B 4 (BaR w B) A bs) (hx : bs[k]? = some x) :
  ∃ b off mA mc, A = some ⟨b, off, none⟩ ∧ b < B ∧ w.cell? ⟨b, off + k * 4, none⟩ = some (.int .i64 x.id) ∧ w.cell? ⟨b, off + k * 4 + 1, none⟩ = some (.int .i64 x.mat) ∧ w.cell? ⟨b, off + k * 4 + 2, none⟩ = some (.int .i64 x.at_) ∧ w.cell? ⟨b, off + k * 4 + 3, none⟩ = some (.slice mA x.mix.length mc) ∧ Rd w B 1 IntR mA x.mix := by
 obtain ⟨b, off, e, hb, cs, _, ⟨mA, mc, rfl, hm⟩, hc⟩ := h.at_ hx
 exact ⟨b, off, mA, mc, e, hb, hc 0 _ rfl, hc 1 _ rfl, hc 2 _ rfl, hc 3 _ rfl, hm⟩
theorem acc_in {L M : List Int} {j : Nat} {n : Int} (h : M[j]? = some n) : acc (L ++ M.take (j + 1)) = accStep (acc (L ++ M.take j)) n := by
 rw [take_snoc h, ← List.append_assoc, acc_snoc]
theorem acc_out {bs : List Bale} {k : Nat} {x : Bale} (h : bs[k]? = some x) : acc (mixes (bs.take (k + 1))) = acc (mixes (bs.take k) ++ x.mix.take x.mix.length) := by
 rw [take_snoc h, mixes_snoc, List.take_length]
def TrR (x : Tr) (cs : List Value) : Prop := cs = trC x
theorem tr_cells {w : World} {B : Nat} {A : Option Addr} {ts : List Tr} {k : Nat} {x : Tr} (h : Rd w B 4 TrR A ts) (hx : ts[k]? = some x) :
  ∃ b off, A = some ⟨b, off, none⟩ ∧ b < B ∧ w.cell? ⟨b, off + k * 4, none⟩ = some (.int .i64 x.f) ∧ w.cell? ⟨b, off + k * 4 + 1, none⟩ = some (.int .i64 x.t) ∧ w.cell? ⟨b, off + k * 4 + 2, none⟩ = some (.int .i64 x.lo) ∧ w.cell? ⟨b, off + k * 4 + 3, none⟩ = some (.int .i64 x.hi) := by
 obtain ⟨b, off, e, hb, cs, _, rfl, hc⟩ := h.at_ hx
 exact ⟨b, off, e, hb, hc 0 _ rfl, hc 1 _ rfl, hc 2 _ rfl, hc 3 _ rfl⟩

theorem tr_at {w : World} {B : Nat} {b off : Nat} {ts : List Tr} {k : Nat} {x : Tr} (h : Rd w B 4 TrR (some ⟨b, off, none⟩) ts) (hx : ts[k]? = some x) :
  w.cell? ⟨b, off + k * 4, none⟩ = some (.int .i64 x.f) ∧ w.cell? ⟨b, off + k * 4 + 1, none⟩ = some (.int .i64 x.t) ∧ w.cell? ⟨b, off + k * 4 + 2, none⟩ = some (.int .i64 x.lo) ∧ w.cell? ⟨b, off + k * 4 + 3, none⟩ = some (.int .i64 x.hi) := by
 obtain ⟨b', off', e, _, h0, h1, h2, h3⟩ := tr_cells h hx
 injection e with e
 injection e with e1 e2
 subst e1 e2
 exact ⟨h0, h1, h2, h3⟩
end Go.Proofs.YtbnimhmoffchdaaGreatDoor
