/- The walk of audit.Mass. -/
import Derived.Test.YtbnimhmoffchdaaGreatDoorSmO
namespace Go.Proofs.YtbnimhmoffchdaaGreatDoor
open Go.RowKit

/-- The same in the middle of a round: stocks S, nodes with a finding T, findings fs, the transfer x in block gx. -/
def MMid (w : World) (N : Nat) (bk : List Value) (S : Nat → Int) (T : Nat → Bool) (fs : List Fnd) (gx : Nat) (x : Tr) (wr : World) : Prop :=
 Below N w wr ∧ N + 5 ≤ wr.heap.size ∧ Blk wr N 40 bk ∧ Blk wr (N + 1 + 1 + 1) 88 (stC S) ∧ Blk wr (N + 1 + 1 + 1 + 1) 89 (toC T) ∧ Out wr N (N + 1) (N + 1 + 1) fs ∧ Blk wr gx 60 (trC x)
/-- Before the transfer is boxed. -/
def MPre (w : World) (N : Nat) (bk : List Value) (S : Nat → Int) (T : Nat → Bool) (fs : List Fnd) (wr : World) : Prop :=
 Below N w wr ∧ N + 5 ≤ wr.heap.size ∧ Blk wr N 40 bk ∧ Blk wr (N + 1 + 1 + 1) 88 (stC S) ∧ Blk wr (N + 1 + 1 + 1 + 1) 89 (toC T) ∧ Out wr N (N + 1) (N + 1 + 1) fs
theorem Out.alloc {w : World} {base Bo Bl : Nat} {fs : List Fnd} (h : Out w base Bo Bl fs) (o : Obj) : Out (w.alloc o) base Bo Bl fs := by
 obtain ⟨a, b, v, c, d⟩ := h
 exact ⟨a, b.alloc o, v, c.alloc o, d.alloc o⟩
theorem Out.drewN {w : World} {base Bo Bl : Nat} {fs : List Fnd} (h : Out w base Bo Bl fs) (n : Nat) : Out (w.drewN n) base Bo Bl fs := h
theorem Out.far {w : World} {base Bo Bl : Nat} {fs : List Fnd} (h : Out w base Bo Bl fs) {g : Nat} {t : TypeId} {cs : List Value} (hg : Blk w g t cs) (ht : t ≠ 70 ∧ t ≠ 43 ∧ t ≠ 64) (i : Nat) (u : Value) : Out (w.setCell ⟨g, i, none⟩ u) base Bo Bl fs := by
 obtain ⟨a, b, v, c, d⟩ := h
 exact ⟨a, b.far (b.ne_ hg (fun e => ht.1 e.symm)) u, v, c.far (c.ne_ hg (fun e => ht.2.1 e.symm)) u, own_setCell_other d (own_blk_ne d hg (fun e => ht.2.2 e.symm)) u⟩
theorem MPre.boxes {w : World} {N : Nat} {bk : List Value} {S : Nat → Int} {T : Nat → Bool} {fs : List Fnd} {wr : World} (h : MPre w N bk S T fs wr) (x : Tr) (o : Obj) (n : Nat) : MMid w N bk S T fs wr.heap.size x (((wr.alloc (.cells (trC x).toArray 60)).alloc o).drewN n) := by
 obtain ⟨a, b, c, d, e, f⟩ := h
 exact ⟨below_drewN ((a.alloc (by omega) _).alloc (by simp; omega) _) n, by simp; omega, ((c.alloc _).alloc _).drewN n, ((d.alloc _).alloc _).drewN n, ((e.alloc _).alloc _).drewN n, ((f.alloc _).alloc _).drewN n, ((Blk.new wr _ (trC x)).alloc _).drewN n⟩
theorem MPre.box1 {w : World} {N : Nat} {bk : List Value} {S : Nat → Int} {T : Nat → Bool} {fs : List Fnd} {wr : World} (h : MPre w N bk S T fs wr) (x : Tr) : MMid w N bk S T fs wr.heap.size x (wr.alloc (.cells (trC x).toArray 60)) := by
 obtain ⟨a, b, c, d, e, f⟩ := h
 exact ⟨a.alloc (by omega) _, by simp; omega, c.alloc _, d.alloc _, e.alloc _, f.alloc _, Blk.new wr _ (trC x)⟩
theorem MMid.xs {w : World} {N : Nat} {bk : List Value} {S : Nat → Int} {T : Nat → Bool} {fs : List Fnd} {gx : Nat} {x : Tr} {wr : World} (h : MMid w N bk S T fs gx x wr) :
  wr.cell? ⟨gx, 0, none⟩ = some (.int .i64 x.f) ∧ wr.cell? ⟨gx, 1, none⟩ = some (.int .i64 x.t) ∧ wr.cell? ⟨gx, 2, none⟩ = some (.int .i64 x.lo) ∧ wr.cell? ⟨gx, 3, none⟩ = some (.int .i64 x.hi) := by
 obtain ⟨_, _, _, _, _, _, g⟩ := h
 exact ⟨g.at_ 0 rfl, g.at_ 1 rfl, g.at_ 2 rfl, g.at_ 3 rfl⟩
theorem MMid.st {w : World} {N : Nat} {bk : List Value} {S : Nat → Int} {T : Nat → Bool} {fs : List Fnd} {gx : Nat} {x : Tr} {wr : World} (h : MMid w N bk S T fs gx x wr) {i : Nat} (hi : i < 7) :
  wr.cell? ⟨N + 1 + 1 + 1, i * 2, none⟩ = some (.int .i64 (S (i * 2))) ∧ wr.cell? ⟨N + 1 + 1 + 1, i * 2 + 1, none⟩ = some (.int .i64 (S (i * 2 + 1))) ∧ ∀ j, wr.frozen? ⟨N + 1 + 1 + 1, j, none⟩ = false := by
 obtain ⟨_, _, _, d, _⟩ := h
 exact ⟨d.at_ _ (stC_get S (by omega)), d.at_ _ (stC_get S (by omega)), fun j => d.free j⟩
/-- What is read behind a store into the stocks: the transfer's cells; the other stock cells. -/
theorem MMid.far {w : World} {N : Nat} {bk : List Value} {S : Nat → Int} {T : Nat → Bool} {fs : List Fnd} {gx : Nat} {x : Tr} {wr : World} (h : MMid w N bk S T fs gx x wr) :
  (∀ i u, (wr.setCell ⟨N + 1 + 1 + 1, i, none⟩ u).cell? ⟨gx, 0, none⟩ = some (.int .i64 x.f)) ∧ (∀ i u, (wr.setCell ⟨N + 1 + 1 + 1, i, none⟩ u).cell? ⟨gx, 1, none⟩ = some (.int .i64 x.t)) ∧
  (∀ i u, (wr.setCell ⟨N + 1 + 1 + 1, i, none⟩ u).cell? ⟨gx, 2, none⟩ = some (.int .i64 x.lo)) ∧ (∀ i u, (wr.setCell ⟨N + 1 + 1 + 1, i, none⟩ u).cell? ⟨gx, 3, none⟩ = some (.int .i64 x.hi)) := by
 obtain ⟨_, _, _, d, _, _, g⟩ := h
 have hne : gx ≠ N + 1 + 1 + 1 := g.ne_ d (by decide)
 exact ⟨fun i u => (g.far hne u).at_ 0 rfl, fun i u => (g.far hne u).at_ 1 rfl, fun i u => (g.far hne u).at_ 2 rfl, fun i u => (g.far hne u).at_ 3 rfl⟩
theorem MMid.st2 {w : World} {N : Nat} {bk : List Value} {S : Nat → Int} {T : Nat → Bool} {fs : List Fnd} {gx : Nat} {x : Tr} {wr : World} (h : MMid w N bk S T fs gx x wr) {i : Nat} (hi : i < 7) :
  (∀ u, (wr.setCell ⟨N + 1 + 1 + 1, i * 2, none⟩ u).cell? ⟨N + 1 + 1 + 1, i * 2 + 1, none⟩ = some (.int .i64 (S (i * 2 + 1)))) ∧ (∀ a u j, (wr.setCell ⟨N + 1 + 1 + 1, a, none⟩ u).frozen? ⟨N + 1 + 1 + 1, j, none⟩ = false) := by
 obtain ⟨_, _, _, d, _⟩ := h
 refine ⟨fun u => (d.set_ _ u).at_ _ ?_, fun a u j => (d.set_ a u).free j⟩
 rw [List.getElem?_set, if_neg (by omega)]
 exact stC_get S (by omega)
theorem MMid.store {w : World} {N : Nat} {bk : List Value} {S : Nat → Int} {T : Nat → Bool} {fs : List Fnd} {gx : Nat} {x : Tr} {wr : World} (h : MMid w N bk S T fs gx x wr) (i : Nat) (v : Int) : MMid w N bk (upd S i v) T fs gx x (wr.setCell ⟨N + 1 + 1 + 1, i, none⟩ (.int .i64 v)) := by
 obtain ⟨a, b, c, d, e, f, g⟩ := h
 exact ⟨a.setCell (p := ⟨N + 1 + 1 + 1, i, none⟩) (by simp; omega) _, by simpa [World.setCell] using b, c.far (c.ne_ d (by decide)) _, by rw [← stC_set]; exact d.set_ i _, e.far (e.ne_ d (by decide)) _, f.far d (by decide) _ _, g.far (g.ne_ d (by decide)) _⟩
theorem MMid.drewN {w : World} {N : Nat} {bk : List Value} {S : Nat → Int} {T : Nat → Bool} {fs : List Fnd} {gx : Nat} {x : Tr} {wr : World} (h : MMid w N bk S T fs gx x wr) (n : Nat) : MMid w N bk S T fs gx x (wr.drewN n) := by
 obtain ⟨a, b, c, d, e, f, g⟩ := h
 exact ⟨below_drewN a n, b, c, d, e, f, g⟩
theorem MMid.drew {w : World} {N : Nat} {bk : List Value} {S : Nat → Int} {T : Nat → Bool} {fs : List Fnd} {gx : Nat} {x : Tr} {wr : World} (h : MMid w N bk S T fs gx x wr) : MMid w N bk S T fs gx x wr.drew := h.drewN 1
theorem MPre.intro {w : World} {N : Nat} {bk : List Value} {S : Nat → Int} {T : Nat → Bool} {fs : List Fnd} {wr : World} (a : Below N w wr) (b : N + 5 ≤ wr.heap.size) (c : Blk wr N 40 bk) (d : Blk wr (N + 1 + 1 + 1) 88 (stC S)) (e : Blk wr (N + 1 + 1 + 1 + 1) 89 (toC T)) (f : Out wr N (N + 1) (N + 1 + 1) fs) : MPre w N bk S T fs wr := ⟨a, b, c, d, e, f⟩
theorem MMid.pre {w : World} {N : Nat} {bk : List Value} {S : Nat → Int} {T : Nat → Bool} {fs : List Fnd} {gx : Nat} {x : Tr} {wr : World} (h : MMid w N bk S T fs gx x wr) : MPre w N bk S T fs wr := by
 obtain ⟨a, b, c, d, e, f, _⟩ := h
 exact ⟨a, b, c, d, e, f⟩
theorem MPre.alloc {w : World} {N : Nat} {bk : List Value} {S : Nat → Int} {T : Nat → Bool} {fs : List Fnd} {wr : World} (h : MPre w N bk S T fs wr) (o : Obj) : MPre w N bk S T fs (wr.alloc o) := by
 obtain ⟨a, b, c, d, e, f⟩ := h
 exact ⟨a.alloc (by omega) _, by simp; omega, c.alloc _, d.alloc _, e.alloc _, f.alloc _⟩
theorem MPre.told {w : World} {N : Nat} {bk : List Value} {S : Nat → Int} {T : Nat → Bool} {fs : List Fnd} {wr : World} (h : MPre w N bk S T fs wr) (i : Nat) (v : Bool) : MPre w N bk S (upd T i v) fs (wr.setCell ⟨N + 1 + 1 + 1 + 1, i, none⟩ (.bool v)) := by
 obtain ⟨a, b, c, d, e, f⟩ := h
 exact ⟨a.setCell (p := ⟨N + 1 + 1 + 1 + 1, i, none⟩) (by simp; omega) _, by simpa [World.setCell] using b, c.far (c.ne_ e (by decide)) _, d.far (d.ne_ e (by decide)) _, by rw [← toC_set]; exact e.set_ i _, f.far e (by decide) _ _⟩
theorem MPre.found {w : World} {N : Nat} {bk : List Value} {S : Nat → Int} {T : Nat → Bool} {fs fs' : List Fnd} {wr w' : World} (h : MPre w N bk S T fs wr) (ho : Out w' N (N + 1) (N + 1 + 1) fs') (hk : Kp [43, 64] N wr w') : MPre w N bk S T fs' w' := by
 obtain ⟨a, b, c, d, e, _⟩ := h
 exact ⟨a.trans hk.below, Nat.le_trans b hk.below.size, hk.blk _ _ _ (by decide) c, hk.blk _ _ _ (by decide) d, hk.blk _ _ _ (by decide) e, ho⟩
theorem MPre.out {w : World} {N : Nat} {bk : List Value} {S : Nat → Int} {T : Nat → Bool} {fs : List Fnd} {wr : World} (h : MPre w N bk S T fs wr) : Out wr N (N + 1) (N + 1 + 1) fs := h.2.2.2.2.2
theorem MPre.neg {w : World} {N : Nat} {bk : List Value} {S : Nat → Int} {T : Nat → Bool} {fs : List Fnd} {wr : World} (h : MPre w N bk S T fs wr) {i : Nat} (hi : i < 7) : wr.cell? ⟨N + 1 + 1 + 1 + 1, i, none⟩ = some (.bool (T i)) ∧ wr.frozen? ⟨N + 1 + 1 + 1 + 1, i, none⟩ = false :=
 ⟨h.2.2.2.2.1.at_ i (toC_get T hi), h.2.2.2.2.1.free i⟩
theorem from_other (S : Nat → Int) (fn tn : Nat) (lo hi : Int) (h : fn ≠ tn) (i : Nat) (hj : i = tn * 2 ∨ i = tn * 2 + 1) : stepFrom S ⟨fn, tn, lo, hi⟩ i = S i := by
 unfold stepFrom upd
 simp only [Int.toNat_natCast]
 rw [if_neg (by omega), if_neg (by omega)]
theorem round_neg {w wr : World} {N : Nat} {bk : List Value} {ts : List Tr} {k : Nat} {x : Tr} {S1 S2 : Nat → Int} {T : Nat → Bool} (hx : ts[k]? = some x) (hb : ¬ x.bad = true) (hS1 : S1 = stepFrom (stk (ts.take k)) x) (hS2 : S2 = stepTo S1 x) (hT : T = (outs ts k).1)
  (hn : x.f ≠ 0 ∧ S2 (x.f.toNat * 2 + 1) < 0 ∧ T x.f.toNat = false) (h : MPre w N bk S2 (upd (outs ts k).1 x.f.toNat true) ((outs ts k).2 ++ [⟨2, x.f, k⟩]) wr) : MPre w N bk (stk (ts.take (k + 1))) (outs ts (k + 1)).1 (outs ts (k + 1)).2 wr := by
 subst hS1 hS2 hT
 rw [stk_good hx hb, outs_neg hx hb hn]
 exact h
theorem round_not {w wr : World} {N : Nat} {bk : List Value} {ts : List Tr} {k : Nat} {x : Tr} {S1 S2 : Nat → Int} {T : Nat → Bool} (hx : ts[k]? = some x) (hb : ¬ x.bad = true) (hS1 : S1 = stepFrom (stk (ts.take k)) x) (hS2 : S2 = stepTo S1 x) (hT : T = (outs ts k).1)
  (hn : ¬ (x.f ≠ 0 ∧ S2 (x.f.toNat * 2 + 1) < 0 ∧ T x.f.toNat = false)) (h : MPre w N bk S2 (outs ts k).1 (outs ts k).2 wr) : MPre w N bk (stk (ts.take (k + 1))) (outs ts (k + 1)).1 (outs ts (k + 1)).2 wr := by
 subst hS1 hS2 hT
 rw [stk_good hx hb, outs_not hx hb hn]
 exact h
theorem round_bad {w wr : World} {N : Nat} {bk : List Value} {ts : List Tr} {k : Nat} {x : Tr} (hx : ts[k]? = some x) (hb : x.bad = true) (h : MPre w N bk (stk (ts.take k)) (outs ts k).1 ((outs ts k).2 ++ [⟨1, k, 0⟩]) wr) : MPre w N bk (stk (ts.take (k + 1))) (outs ts (k + 1)).1 (outs ts (k + 1)).2 wr := by
 rw [stk_bad hx hb, outs_bad hx hb]
 exact h
theorem pre_start {w : World} {bk : List Value} (hb : Below w.heap.size w ((((((w.alloc (.cells bk.toArray 40)).alloc (.cells #[.slice none 0 0] 43)).alloc (.cells #[.pointer (some ⟨w.heap.size + 1, 0, none⟩)] 70)).alloc (.cells (stC fun _ => 0).toArray 88))).alloc (.cells (toC fun _ => false).toArray 89))) :
  MPre w w.heap.size bk (fun _ => 0) (fun _ => false) [] ((((((w.alloc (.cells bk.toArray 40)).alloc (.cells #[.slice none 0 0] 43)).alloc (.cells #[.pointer (some ⟨w.heap.size + 1, 0, none⟩)] 70)).alloc (.cells (stC fun _ => 0).toArray 88))).alloc (.cells (toC fun _ => false).toArray 89)) := by
 have h0 := Blk.new w 40 bk
 have h1 := Blk.new (w.alloc (.cells bk.toArray 40)) 43 [.slice none 0 0]
 have h2 := Blk.new ((w.alloc (.cells bk.toArray 40)).alloc (.cells #[.slice none 0 0] 43)) 70 [.pointer (some ⟨w.heap.size + 1, 0, none⟩)]
 have h3 := Blk.new (((w.alloc (.cells bk.toArray 40)).alloc (.cells #[.slice none 0 0] 43)).alloc (.cells #[.pointer (some ⟨w.heap.size + 1, 0, none⟩)] 70)) 88 (stC fun _ => 0)
 have h4 := Blk.new ((((w.alloc (.cells bk.toArray 40)).alloc (.cells #[.slice none 0 0] 43)).alloc (.cells #[.pointer (some ⟨w.heap.size + 1, 0, none⟩)] 70)).alloc (.cells (stC fun _ => 0).toArray 88)) 89 (toC fun _ => false)
 simp only [World.size_alloc] at h1 h2 h3 h4
 refine ⟨hb, by simp, (((h0.alloc _).alloc _).alloc _).alloc _, h3.alloc _, h4, ⟨by omega, (h2.alloc _).alloc _, _, ((h1.alloc _).alloc _).alloc _, World.ownsRow_nil _ _ _ _⟩⟩
theorem massF_eq {ts : List Tr} {ins bins : Int} {bs : List Bale} {fs : List Fnd} (h : fs = (outs ts ts.length).2 ++ (if plantBad ts ins bins then [⟨3, 0, 0⟩] else [])) : massF ts ins bins bs = fs ++ (if balesBad ts bs then [⟨4, 0, 0⟩] else []) := by
 subst h; rfl
set_option maxRecDepth 100000 in
set_option maxHeartbeats 40000000 in
theorem mass_any (now hh cc as_ em ta gap pr sa cl pa co fe bi po : Value) (trA : Option Addr) (c : Nat) (ts : List Tr) (hn : ts.length ≤ 512) (baA : Option Addr) (cb : Nat) (bs : List Bale) (hnb : bs.length ≤ 64) (ins bins : Int) (w : World)
  (hT : Rd w w.heap.size 4 TrR trA ts) (hB : Rd w w.heap.size 4 (BaR w w.heap.size) baA bs) :
  Calls Tryz.prog 15 #[.agg #[now, hh, cc, as_, em, ta, gap, .slice trA ts.length c, .int .i64 ins, .int .i64 bins, .slice baA bs.length cb, pr, sa, cl, pa, co, fe, bi, po]] w fun e w' => ∃ v, e = .returned (.tuple #[v, .int .i64 0]) ∧ w'.ownsRow w.heap.size 64 3 v (massF ts ins bins bs).length ((massF ts ins bins bs).flatMap fnC) ∧ Below w.heap.size w w' := by
 obtain ⟨BK, hBK⟩ : ∃ l, l = [now, hh, cc, as_, em, ta, gap, .slice trA ts.length c, .int .i64 ins, .int .i64 bins, .slice baA bs.length cb, pr, sa, cl, pa, co, fe, bi, po] := ⟨_, rfl⟩
 have HBK := Lib.hid hBK; clear hBK
 have q1 : decide (512 < (ts.length : Int)) = false := by simp; omega
 have q2 : decide (64 < (bs.length : Int)) = false := by simp; omega
 go_enter Tryz.func15, Tryz.ntmps15
 go_wp2_with (go_at_call 21; refine (collector_any _ _).mono ?_; rintro e w' ⟨rfl, rfl⟩)
 go_loopw [34] (fun i wr => ∃ k : Nat, k ≤ ts.length ∧ i = .int .i64 k ∧ MPre w w.heap.size BK (stk (ts.take k)) (outs ts k).1 (outs ts k).2 wr) (fun i _ => ts.length - (intOf i).toNat)
 case atStart =>
  rw [HBK.out]
  exact ⟨0, Nat.zero_le _, rfl, pre_start (by repeat (first | exact Below.refl _ _ | refine Below.alloc ?_ (by simp only [World.size_alloc]; omega) _ | exact (Below.refl _ _).alloc (Nat.le_refl _) _))⟩
 case round =>
  obtain ⟨k, hk, rfl, hP⟩ := hrel
  have hb := hP.1
  have hM := Lib.hid hP; clear hP
  by_cases hlt : k < ts.length
  ·obtain ⟨x, hx⟩ := get_of_lt hlt
   obtain ⟨b, off, rfl, hbB, x0, x1, x2, x3⟩ := tr_cells (hT.below hb) hx
   clear hb
   have HX := Lib.hid hx; clear hx
   obtain ⟨f, t, lo, hi⟩ := x
   simp only at x0 x1 x2 x3
   go_upto_region 10 with fail
   go_cut [8, 9, 34, 75] (fun s8 s9 s34 s75 wc => ∃ gx : Nat, s8 = .int .i64 k ∧ s9 = .pointer (some ⟨gx, 0, none⟩) ∧ s34 = .int .i64 k ∧ s75 = .bool (Tr.bad ⟨f, t, lo, hi⟩) ∧ MMid w w.heap.size BK (stk (ts.take k)) (outs ts k).1 (outs ts k).2 gx ⟨f, t, lo, hi⟩ wc)
   case first =>
    as_aux_lemma =>
     go_wp2_with (go_at_call 41; refine (spanValid_any _ _ _).mono ?_; rintro e w' ⟨rfl, rfl⟩)
     all_goals (go_meet; refine ⟨_, rfl, rfl, rfl, congrArg Value.bool ?_, ?_⟩)
     all_goals first
      | exact hM.out.box1 _
      | exact hM.out.boxes _ _ 0
      | (have e : f = t := by assumption
         subst e
         exact hM.out.box1 _)
      | (have hs : spanB lo hi = true := by assumption
         simp only [spanB, decide_eq_true_eq] at hs
         rw [Bool.eq_iff_iff]; simp [Tr.bad, invalidB] <;> omega)
      | (have hs : ¬ spanB lo hi = true := by assumption
         simp only [spanB, decide_eq_true_eq] at hs
         rw [Bool.eq_iff_iff]; simp [Tr.bad, invalidB] <;> omega)
      | (rw [Bool.eq_iff_iff]; simp [Tr.bad, invalidB] <;> omega)
   case rest =>
    obtain ⟨gx, rfl, rfl, rfl, rfl, hm⟩ := hcut
    by_cases hbad : Tr.bad ⟨f, t, lo, hi⟩ = true
    ·skip
     as_aux_lemma =>
      have HB := Lib.hid hbad
      have hfl := outs_le ts k
      rw [hbad]
      clear hbad x0 x1 x2 x3
      have H := Lib.hid hm; clear hm
      go_wp2_with (go_at_call 58; refine (found_any _ _ _ w.heap.size (w.heap.size + 1) (w.heap.size + 1 + 1) (outs ts k).2 _ H.out.pre.out (by omega)).mono ?_; rintro e w' ⟨rfl, ho, hk⟩; have HO := Lib.hid ho; have HK := Lib.hid hk; clear ho hk)
      refine ⟨⟨k + 1, by omega, by go_num, ?_⟩, by simp [intOf]; omega⟩
      exact round_bad HX.out HB.out (H.out.pre.found HO.out HK.out)
    ·skip
     as_aux_lemma =>
      have g := good_of (by simpa using hbad)
      simp only at g
      obtain ⟨g1, g2, g3, g4, g5, g6, g7, g8⟩ := g
      obtain ⟨fn, rfl⟩ := Int.eq_ofNat_of_zero_le g1
      obtain ⟨tn, rfl⟩ := Int.eq_ofNat_of_zero_le g3
      have HB := Lib.hid hbad; clear hbad
      rw [show Tr.bad ⟨fn, tn, lo, hi⟩ = false from by simpa using HB.out]
      obtain ⟨y0, y1, _, _⟩ := hm.xs
      have H := Lib.hid hm; clear hm x0 x1 x2 x3
      simp only at y0 y1
      go_upto_region 12 with fail
      go_cut [8, 9, 10, 11, 34] (fun s8 s9 s10 s11 s34 wd => s8 = .int .i64 k ∧ s9 = .pointer (some ⟨gx, 0, none⟩) ∧ s10 = .pointer (some ⟨w.heap.size + 1 + 1 + 1, fn * 2, none⟩) ∧ s11 = .pointer (some ⟨w.heap.size + 1 + 1 + 1, tn * 2, none⟩) ∧ s34 = .int .i64 k ∧ MMid w w.heap.size BK (stk (ts.take k)) (outs ts k).1 (outs ts k).2 gx ⟨fn, tn, lo, hi⟩ wd)
      case first =>
       go_quiet (fail)
       go_wp2
       go_meet
       exact ⟨rfl, rfl, rfl, rfl, rfl, H.out.drewN _⟩
      case rest =>
       obtain ⟨rfl, rfl, rfl, rfl, rfl, hm⟩ := hcut
       clear y0 y1 H
       obtain ⟨x0, x1, x2, x3⟩ := hm.xs
       obtain ⟨c0, c1, e0⟩ := hm.st (i := fn) (by omega)
       obtain ⟨y0, y1, y2, y3⟩ := hm.far
       obtain ⟨z1, z2⟩ := hm.st2 (i := fn) (by omega)
       have d0 := stk_bd (ts.take k) (fn * 2)
       have d1 := stk_bd (ts.take k) (fn * 2 + 1)
       have hkl : (ts.take k).length ≤ 512 := by simp; omega
       obtain ⟨d00, d01⟩ : -36028797018963968 ≤ stk (ts.take k) (fn * 2) ∧ stk (ts.take k) (fn * 2) ≤ 36028797018963968 := by omega
       obtain ⟨d10, d11⟩ : -36028797018963968 ≤ stk (ts.take k) (fn * 2 + 1) ∧ stk (ts.take k) (fn * 2 + 1) ≤ 36028797018963968 := by omega
       clear d0 d1 hkl
       have H := Lib.hid hm; clear hm
       simp only at x0 x1 x2 x3 y0 y1 y2 y3
       go_upto_region 13 with fail
       go_cut [8, 9, 10, 11, 34] (fun s8 s9 s10 s11 s34 wd => s8 = .int .i64 k ∧ s9 = .pointer (some ⟨gx, 0, none⟩) ∧ s10 = .pointer (some ⟨w.heap.size + 1 + 1 + 1, fn * 2, none⟩) ∧ s11 = .pointer (some ⟨w.heap.size + 1 + 1 + 1, tn * 2, none⟩) ∧ s34 = .int .i64 k ∧ MMid w w.heap.size BK (stepFrom (stk (ts.take k)) ⟨fn, tn, lo, hi⟩) (outs ts k).1 (outs ts k).2 gx ⟨fn, tn, lo, hi⟩ wd)
       case first =>
        as_aux_lemma =>
         go_region
         all_goals (go_wp2; go_meet; refine ⟨rfl, rfl, rfl, rfl, rfl, ?_⟩)
         all_goals exact ((H.out.store _ _).store _ _).drew
       case rest =>
        obtain ⟨rfl, rfl, rfl, rfl, rfl, hm⟩ := hcut
        clear x0 x1 x2 x3 y0 y1 y2 y3 c0 c1 e0 z1 z2 H d00 d01 d10 d11
        obtain ⟨S1, hS1⟩ : ∃ S1, S1 = stepFrom (stk (ts.take k)) ⟨fn, tn, lo, hi⟩ := ⟨_, rfl⟩
        rw [← hS1] at hm
        obtain ⟨x0, x1, x2, x3⟩ := hm.xs
        obtain ⟨c0, c1, e0⟩ := hm.st (i := tn) (by omega)
        obtain ⟨y0, y1, y2, y3⟩ := hm.far
        obtain ⟨z1, z2⟩ := hm.st2 (i := tn) (by omega)
        have d0 := stk_bd (ts.take k) (tn * 2)
        have d1 := stk_bd (ts.take k) (tn * 2 + 1)
        have hkl : (ts.take k).length ≤ 512 := by simp; omega
        obtain ⟨d00, d01⟩ : -36028797018963968 ≤ S1 (tn * 2) ∧ S1 (tn * 2) ≤ 36028797018963968 := by
         rw [hS1, from_other _ fn tn lo hi (by omega) _ (.inl rfl)]; omega
        obtain ⟨d10, d11⟩ : -36028797018963968 ≤ S1 (tn * 2 + 1) ∧ S1 (tn * 2 + 1) ≤ 36028797018963968 := by
         rw [hS1, from_other _ fn tn lo hi (by omega) _ (.inr rfl)]; omega
        clear d0 d1 hkl
        have HS1 := Lib.hid hS1; clear hS1
        have H := Lib.hid hm; clear hm
        simp only at x0 x1 x2 x3 y0 y1 y2 y3
        go_upto_region 14 with fail
        go_cut [8, 9, 10, 11, 34] (fun s8 s9 s10 s11 s34 wd => s8 = .int .i64 k ∧ s9 = .pointer (some ⟨gx, 0, none⟩) ∧ s10 = .pointer (some ⟨w.heap.size + 1 + 1 + 1, fn * 2, none⟩) ∧ s11 = .pointer (some ⟨w.heap.size + 1 + 1 + 1, tn * 2, none⟩) ∧ s34 = .int .i64 k ∧ MMid w w.heap.size BK (stepTo S1 ⟨fn, tn, lo, hi⟩) (outs ts k).1 (outs ts k).2 gx ⟨fn, tn, lo, hi⟩ wd)
        case first =>
         as_aux_lemma =>
          go_region
          all_goals (go_wp2; go_meet; refine ⟨rfl, rfl, rfl, rfl, rfl, ?_⟩)
          all_goals exact ((H.out.store _ _).store _ _).drew
        case rest =>
         obtain ⟨rfl, rfl, rfl, rfl, rfl, hm⟩ := hcut
         clear x0 x1 x2 x3 y0 y1 y2 y3 c0 c1 e0 z1 z2 H d00 d01 d10 d11
         obtain ⟨S2, hS2⟩ : ∃ S2, S2 = stepTo S1 ⟨fn, tn, lo, hi⟩ := ⟨_, rfl⟩
         rw [← hS2] at hm
         obtain ⟨x0, _, _, _⟩ := hm.xs
         obtain ⟨_, c1, _⟩ := hm.st (i := fn) (by omega)
         obtain ⟨t1, t2⟩ := hm.pre.neg (i := fn) (by omega)
         obtain ⟨T, hT0⟩ : ∃ T, T = (outs ts k).1 := ⟨_, rfl⟩
         rw [← hT0] at t1
         have hfl := outs_le ts k
         have H := Lib.hid hm; clear hm
         have HT := Lib.hid hT0; clear hT0
         have HS2 := Lib.hid hS2; clear hS2
         simp only at x0
         by_cases hneg : (fn : Int) ≠ 0 ∧ S2 (fn * 2 + 1) < 0 ∧ T fn = false
         ·have HN := Lib.hid hneg
          obtain ⟨n1, n2, n3⟩ := hneg
          as_aux_lemma =>
           have n1' : ((fn : Int) != 0) = true := by simpa using n1
           have n2' : decide (S2 (fn * 2 + 1) < 0) = true := by simpa using n2
           go_wp2_with (go_at_call 58; refine (found_any _ _ _ w.heap.size (w.heap.size + 1) (w.heap.size + 1 + 1) (outs ts k).2 _ (H.out.pre.told fn true).out (by omega)).mono ?_; rintro e w' ⟨rfl, ho, hk⟩; have HO := Lib.hid ho; have HK := Lib.hid hk; clear ho hk)
           refine ⟨⟨k + 1, by omega, by go_num, ?_⟩, by simp [intOf]; omega⟩
           exact round_neg HX.out HB.out HS1.out HS2.out HT.out HN.out ((H.out.pre.told fn true).found HO.out HK.out)
         ·have HN := Lib.hid hneg
          clear hneg
          as_aux_lemma =>
           have hc : ((fn : Int) != 0) = false ∨ (((fn : Int) != 0) = true ∧ decide (S2 (fn * 2 + 1) < 0) = false) ∨ (((fn : Int) != 0) = true ∧ decide (S2 (fn * 2 + 1) < 0) = true ∧ T fn = true) := by
            by_cases a1 : (fn : Int) = 0
            ·left; simpa using a1
            ·by_cases a2 : S2 (fn * 2 + 1) < 0
             ·right; right
              refine ⟨by simpa using a1, by simpa using a2, ?_⟩
              cases a3 : T fn
              ·exact absurd ⟨a1, a2, a3⟩ HN.out
              ·rfl
             ·right; left
              exact ⟨by simpa using a1, by simpa using a2⟩
           rcases hc with a1 | ⟨a1, a2⟩ | ⟨a1, a2, a3⟩
           all_goals
            go_wp2_with fail
            refine ⟨⟨k + 1, by omega, by go_num, ?_⟩, by simp [intOf]; omega⟩
            exact round_not HX.out HB.out HS1.out HS2.out HT.out HN.out H.out.pre
  ·skip
   as_aux_lemma =>
    obtain rfl : k = ts.length := by omega
    rw [List.take_length] at hM
    obtain ⟨m8, m9, m10⟩ : wr.cell? ⟨w.heap.size, 8, none⟩ = some (.int .i64 ins) ∧ wr.cell? ⟨w.heap.size, 9, none⟩ = some (.int .i64 bins) ∧ wr.cell? ⟨w.heap.size, 10, none⟩ = some (.slice baA bs.length cb) := by
     have h := hM.out.2.2.1
     rw [HBK.out] at h
     exact ⟨h.at_ 8 rfl, h.at_ 9 rfl, h.at_ 10 rfl⟩
    obtain ⟨s6, s7⟩ : wr.cell? ⟨w.heap.size + 1 + 1 + 1, 6, none⟩ = some (.int .i64 (stk ts 6)) ∧ wr.cell? ⟨w.heap.size + 1 + 1 + 1, 7, none⟩ = some (.int .i64 (stk ts 7)) :=
     ⟨hM.out.2.2.2.1.at_ 6 (stC_get _ (by omega)), hM.out.2.2.2.1.at_ 7 (stC_get _ (by omega))⟩
    clear hb
    go_upto_region 21 with fail
    go_cut [12, 178] (fun s12 s178 wc => s12 = .func (Fn.func 42) #[] #[] ∧ s178 = .bool (plantBad ts ins bins) ∧ MPre w w.heap.size BK (stk ts) (outs ts ts.length).1 (outs ts ts.length).2 wc)
    case first =>
     as_aux_lemma =>
      by_cases i1 : withinB 0 70368744177664 ins = true
      ·by_cases i2 : withinB 0 70368744177664 bins = true
       ·have j1 := i1
        have j2 := i2
        simp only [withinB, decide_eq_true_eq] at j1 j2
        obtain ⟨j3, j4⟩ := j1
        obtain ⟨j5, j6⟩ := j2
        have HP : Hid ((!withinB (stk ts 6) (stk ts 7) (ins + bins)) = plantBad ts ins bins) := by unfold plantBad; rw [i1, i2]; rfl
        go_wp2_with (first | (go_at_call 43; refine (massOk_any _ _).mono ?_; rintro e w' ⟨rfl, rfl⟩) | (go_at_call 42; refine (within2_any _ _ _ _).mono ?_; rintro e w' ⟨rfl, rfl⟩))
        go_meet
        exact ⟨rfl, congrArg Value.bool HP.out, hM.out.alloc _⟩
       ·have HP : Hid (true = plantBad ts ins bins) := by unfold plantBad; rw [i1, show withinB 0 70368744177664 bins = false from by simpa using i2]; rfl
        have i2' : withinB 0 70368744177664 bins = false := by simpa using i2
        clear i2
        go_wp2_with (first | (go_at_call 43; refine (massOk_any _ _).mono ?_; rintro e w' ⟨rfl, rfl⟩))
        go_meet
        exact ⟨rfl, congrArg Value.bool HP.out, hM.out⟩
      ·have HP : Hid (true = plantBad ts ins bins) := by unfold plantBad; rw [show withinB 0 70368744177664 ins = false from by simpa using i1]; rfl
       have i1' : withinB 0 70368744177664 ins = false := by simpa using i1
       clear i1
       go_wp2_with (first | (go_at_call 43; refine (massOk_any _ _).mono ?_; rintro e w' ⟨rfl, rfl⟩))
       go_meet
       exact ⟨rfl, congrArg Value.bool HP.out, hM.out⟩
    case rest =>
     obtain ⟨rfl, rfl, hm⟩ := hcut
     clear m8 m9 m10 s6 s7 hM
     have H := Lib.hid hm; clear hm
     have hfl := outs_le ts ts.length
     go_upto_if 178 with fail
     go_cut [12] (fun s12 wc => s12 = .func (Fn.func 42) #[] #[] ∧ MPre w w.heap.size BK (stk ts) (outs ts ts.length).1 ((outs ts ts.length).2 ++ (if plantBad ts ins bins then [⟨3, 0, 0⟩] else [])) wc)
     case first =>
      as_aux_lemma =>
       by_cases hp : plantBad ts ins bins = true
       ·rw [hp]
        go_wp2_with (go_at_call 58; refine (found_any _ _ _ w.heap.size (w.heap.size + 1) (w.heap.size + 1 + 1) (outs ts ts.length).2 _ H.out.out (by omega)).mono ?_; rintro e w' ⟨rfl, ho, hk⟩; have HO := Lib.hid ho; have HK := Lib.hid hk; clear ho hk)
        go_meet
        refine ⟨rfl, ?_⟩
        rw [if_pos hp]
        exact H.out.found HO.out HK.out
       ·have hp' : plantBad ts ins bins = false := by simpa using hp
        rw [hp']
        clear hp'
        have HP := Lib.hid hp; clear hp
        go_wp2_with fail
        go_meet
        refine ⟨rfl, ?_⟩
        rw [if_neg HP.out, List.append_nil]
        exact H.out
     case rest =>
      obtain ⟨rfl, hm⟩ := hcut
      clear H
      obtain ⟨fs, hfs⟩ : ∃ fs, fs = (outs ts ts.length).2 ++ (if plantBad ts ins bins then [⟨3, 0, 0⟩] else []) := ⟨_, rfl⟩
      rw [← hfs] at hm
      have hfl2 : fs.length ≤ 600 := by rw [hfs]; simp only [List.length_append]; split <;> simp <;> omega
      have HF := Lib.hid hfs; clear hfs
      have m10 : wc.cell? ⟨w.heap.size, 10, none⟩ = some (.slice baA bs.length cb) := by
       have h := hm.2.2.1
       rw [HBK.out] at h
       exact h.at_ 10 rfl
      have H := Lib.hid hm; clear hm
      go_wp2_with fail
      go_loopw [14, 15, 184] (fun s14 s15 s184 wr => ∃ k : Nat, k ≤ bs.length ∧ s184 = .int .i64 k ∧ s14 = .int .i64 (acc (mixes (bs.take k))).1 ∧ s15 = .bool (acc (mixes (bs.take k))).2 ∧ MPre w w.heap.size BK (stk ts) (outs ts ts.length).1 fs wr) (fun _ _ i _ => bs.length - (intOf i).toNat)
      case atStart => exact ⟨0, Nat.zero_le _, rfl, rfl, rfl, H.out⟩
      case round =>
       obtain ⟨k, hk, rfl, rfl, rfl, hP⟩ := hrel
       clear H m10
       by_cases hlt : k < bs.length
       ·skip
        as_aux_lemma =>
         obtain ⟨x, hx⟩ := get_of_lt hlt
         obtain ⟨b, off, mA, mc, rfl, hbB, x0, x1, x2, x3, hmix⟩ := ba_cells (hB.belowR (BaR.below hP.1) hP.1) hx
         have HX := Lib.hid hx; clear hx
         have HM := Lib.hid (hmix.below ((Below.refl _ wr).alloc (by have := hP.2.1; omega) (.cells #[.int .i64 x.id, .int .i64 x.mat, .int .i64 x.at_, .slice mA x.mix.length mc] 96)))
         have hml := hmix.1
         clear hmix
         have H := Lib.hid hP; clear hP
         go_wp2_with fail
         go_loop [14, 15, 191] (fun s14 s15 s191 => ∃ j : Nat, j ≤ x.mix.length ∧ s191 = .int .i64 j ∧ s14 = .int .i64 (acc (mixes (bs.take k) ++ x.mix.take j)).1 ∧ s15 = .bool (acc (mixes (bs.take k) ++ x.mix.take j)).2) (fun _ _ i => x.mix.length - (intOf i).toNat)
         case atStart => exact ⟨0, Nat.zero_le _, rfl, by simp, by simp⟩
         case round =>
          obtain ⟨j, hj, rfl, rfl, rfl⟩ := hrel
          by_cases hjl : j < x.mix.length
          ·obtain ⟨n, hn⟩ := get_of_lt hjl
           obtain ⟨mb, mo, rfl, hmB, y0⟩ := int_cell HM.out hn
           have HS := Lib.hid (acc_in (L := mixes (bs.take k)) hn); clear hn
           obtain ⟨s, hs⟩ : ∃ s, s = (acc (mixes (bs.take k) ++ x.mix.take j)).1 := ⟨_, rfl⟩
           obtain ⟨r, hr⟩ : ∃ r, r = (acc (mixes (bs.take k) ++ x.mix.take j)).2 := ⟨_, rfl⟩
           rw [← hs, ← hr]
           have HS1 := Lib.hid hs; clear hs
           have HR := Lib.hid hr; clear hr
           have hc : r = false ∨ (r = true ∧ decide (0 ≤ n) = false) ∨ (r = true ∧ decide (0 ≤ n) = true ∧ decide (n ≤ 1073741824) = false) ∨ (r = true ∧ decide (0 ≤ n) = true ∧ decide (n ≤ 1073741824) = true) := by
            cases r <;> by_cases a : 0 ≤ n <;> by_cases b : n ≤ 1073741824 <;> simp [a, b]
           rcases hc with rfl | ⟨rfl, a1⟩ | ⟨rfl, a1, a2⟩ | ⟨rfl, a1, a2⟩
           all_goals
            go_wp2_with fail
            go_round
            case rel =>
             refine ⟨j + 1, by omega, by go_num, ?_, ?_⟩
             all_goals (rw [HS.out]; unfold accStep; rw [← HS1.out, ← HR.out]; simp [*])
            case measure => simp [intOf]; omega
          ·obtain rfl : j = x.mix.length := by omega
           have HA := Lib.hid (acc_out HX.out)
           go_wp2_with fail
           refine ⟨⟨k + 1, by omega, by go_num, by rw [HA.out], by rw [HA.out], H.out.alloc _⟩, by simp [intOf]; omega⟩
       ·skip
        as_aux_lemma =>
         obtain rfl : k = bs.length := by omega
         rw [List.take_length]
         obtain ⟨s8, s9⟩ : wr.cell? ⟨w.heap.size + 1 + 1 + 1, 8, none⟩ = some (.int .i64 (stk ts 8)) ∧ wr.cell? ⟨w.heap.size + 1 + 1 + 1, 9, none⟩ = some (.int .i64 (stk ts 9)) :=
          ⟨hP.2.2.2.1.at_ 8 (stC_get _ (by omega)), hP.2.2.2.1.at_ 9 (stC_get _ (by omega))⟩
         have H := Lib.hid hP; clear hP
         obtain ⟨s, hs⟩ : ∃ s, s = (acc (mixes bs)).1 := ⟨_, rfl⟩
         obtain ⟨r, hr⟩ : ∃ r, r = (acc (mixes bs)).2 := ⟨_, rfl⟩
         rw [← hs, ← hr]
         have HQ : Hid (balesBad ts bs = (!r || !withinB (stk ts 8) (stk ts 9) s)) := by unfold balesBad; rw [hs, hr]; rfl
         clear hs hr
         go_upto_region 35 with fail
         go_cut [219] (fun s219 wc => s219 = .bool (balesBad ts bs) ∧ MPre w w.heap.size BK (stk ts) (outs ts ts.length).1 fs wc)
         case first =>
          cases r
          ·go_wp2_with fail
           go_meet
           exact ⟨congrArg Value.bool (by rw [HQ.out]; rfl), H.out⟩
          ·go_wp2_with (go_at_call 42; refine (within2_any _ _ _ _).mono ?_; rintro e w' ⟨rfl, rfl⟩)
           go_meet
           exact ⟨congrArg Value.bool (by rw [HQ.out]; rfl), H.out.alloc _⟩
         case rest =>
          obtain ⟨rfl, hm⟩ := hcut
          clear H s8 s9
          have H := Lib.hid hm; clear hm
          by_cases hp : balesBad ts bs = true
          ·rw [hp]
           have HP := Lib.hid hp; clear hp
           go_wp2_with (go_at_call 58; refine (found_any _ _ _ w.heap.size (w.heap.size + 1) (w.heap.size + 1 + 1) fs _ H.out.out (by omega)).mono ?_; rintro e w' ⟨rfl, ho, hk⟩; obtain ⟨hb1, hl1, v, ho1, hown⟩ := ho; have cv := ho1.at_ 0 rfl; have HO := Lib.hid hown; have HK := Lib.hid hk; clear hb1 hl1 ho1 hown hk)
           go_ret2
           refine ⟨v, rfl, ?_, H.out.1.trans HK.out.below⟩
           rw [massF_eq HF.out, if_pos HP.out]
           exact HO.out
          ·have hp' : balesBad ts bs = false := by simpa using hp
           rw [hp']
           clear hp'
           have HP := Lib.hid hp; clear hp
           obtain ⟨hb1, hl1, v, ho1, hown⟩ := H.out.out
           have cv := ho1.at_ 0 rfl
           have HO := Lib.hid hown
           clear hb1 hl1 ho1 hown
           go_wp2_with fail
           go_ret2
           refine ⟨v, rfl, ?_, H.out.1⟩
           rw [massF_eq HF.out, if_neg HP.out, List.append_nil]
           exact HO.out
end Go.Proofs.YtbnimhmoffchdaaGreatDoor
