/- Deco: from a reading of arguments to data, and from a walk to a row. -/
import Derived.Test.YtbnimhmoffchdaaGreatDoorKB
import Derived.ProofKit
import Derived.OpenShut
import Derived.Deep.DeepHandedRow
import Derived.Lib.SmallJoins
import Derived.Deep.Slices
import Derived.Deep.Fields
import Derived.Test.YtbnimhmoffchdaaGreatDoorDN
namespace Go.Proofs.YtbnimhmoffchdaaGreatDoor
open Go.ChangeShapes Go.WideShapes Go.ChangeAt Go.RowKit Go.Deep
set_option linter.unusedSectionVars false
variable [JF]

theorem own : ownKnob Tryz.prog.godebug = none := by kernel_rfl
theorem laidOut : laidOutB Tryz.prog = true := by kernel_rfl
section
variable {H : Type} {enc : TypeId × Value → H} {P : Program}
theorem post_of_below {f : Func} {s : ChangeSpec} {apart fresh handsOn again : Bool} {W W' : World} {args : Array Value} {v : Value} {ds gs : List (DataW H)} {before pa pv : List MemPlace}
  (hW : DataW.Whole enc P f.params.toList s.vars apart W args.toList ds gs before)
  (hres : ∀ (b : Nat) (sp : Nat → Bool) (hd : Bool), DataW.TrodAll enc P W' b sp hd f.resultTypes.toList (v.resultList f.resultTypes.size) (s.fn H (ds ++ gs)).results [])
  (hargs : ∀ sp : Nat → Bool, (∀ p ∈ before, sp p.block = true) → DataW.TrodAll enc P W' 0 sp true f.params.toList args.toList (s.fn H (ds ++ gs)).args pa)
  (hvars : ∀ sp : Nat → Bool, (∀ p ∈ before, sp p.block = true) → DataW.TrodVars enc P W' sp s.vars (s.fn H (ds ++ gs)).vars pv)
  (hps : before = pa ++ pv) (hb : Below W.heap.size W W')
  (hok : ∀ (j : Nat) (t : TypeId) (r : Value), f.resultTypes[j]? = some t → (v.resultList f.resultTypes.size)[j]? = some r → Value.okWide P W' .any 0 t r) :
  s.post enc P f apart fresh handsOn again W args v W' := by
 have hlt : ∀ p ∈ before, p.block < W.heap.size := fun p hp => hW.lt p hp
 have hold : ∀ p ∈ before, (fun b => decide (b < W.heap.size)) p.block = true := fun p hp => by simpa using hlt p hp
 refine ⟨ds, gs, before, [], pa, pv, hW, hres _ _ _, hargs _ hold, hvars _ hold, World.keptBut_mono (fun p hp => ⟨hp, ?_⟩) (hb.frame (· ∈ before)), fun _ => ?_⟩
 ·rw [hps, List.mem_append] at hp
  exact Or.inr hp
 ·obtain ⟨_, _, _, _, _, hz, hn⟩ := hW
  refine ⟨hok, _, _, ([] ++ pa) ++ pv, ⟨[] ++ pa, pv, trodAll_append (hargs _ (fun _ _ => rfl)) (hres _ _ _), hvars _ (fun _ _ => rfl), rfl, ?_, ?_⟩, ?_⟩
  ·intro b off hp
   have hin : MemPlace.cell b off ∈ before := by rw [hps]; simpa using hp
   rw [hb.frozen (hlt _ hin)]
   exact hz b off hin
  ·intro ha
   have := hn ha
   rw [hps] at this
   simpa using this
  ·intro p hp _
   rw [hps]
   simpa using hp
theorem stays_all (hl : laidOutB P = true) {W W' : World} (hb : Below W.heap.size W W') : ∀ (ts : List TypeId) (vs : List Value) (ds : List (DataW H)) (ps : List MemPlace),
  (∀ t ∈ ts, P.readableRec t = true ∧ t < P.types.size) → DataW.TrodAll enc P W 0 (fun _ => true) true ts vs ds ps → (∀ p ∈ ps, p.block < W.heap.size) →
  ∀ sp : Nat → Bool, (∀ p ∈ ps, sp p.block = true) → DataW.TrodAll enc P W' 0 sp true ts vs ds ps
 | [], vs, ds, ps, _, h, _, sp, _ => by
  obtain ⟨rfl, rfl, rfl⟩ := trodAll_nil h
  exact trodAll_mk0
 | t :: ts, vs, ds, ps, hr, h, hlt, sp, hs => by
  obtain ⟨v, vs', d, ds', p, q, rfl, rfl, rfl, h0, h1⟩ := trodAll_cons h
  refine trodAll_cons_mk (WideElems.Trod_stays hl (hr t (by simp)).1 (hr t (by simp)).2 h0 (fun x hx => hb.same (hlt x (by simp [hx]))) (fun x hx => hs x (by simp [hx])))
   (stays_all hl hb ts vs' ds' q (fun t' ht' => hr t' (by simp [ht'])) h1 (fun p hp => hlt p (by simp [hp])) sp (fun p hp => hs p (by simp [hp])))
end
set_option maxRecDepth 100000 in
/-- A law that returned true and left all that was there alone meets its row's post. -/
theorem law_post {H : Type} {enc : TypeId × Value → H} {f : Func} {s : ChangeSpec} {W W' : World} {args : Array Value} {ds : List (DataW H)} {gs : List (DataW H)} {before : List MemPlace}
  (hW : DataW.Whole enc Tryz.prog f.params.toList s.vars false W args.toList ds gs before) (hvars : s.vars = [])
  (hread : ∀ t ∈ f.params.toList, Tryz.prog.readableRec t = true ∧ t < Tryz.prog.types.size)
  (hspec : (s.fn H (ds ++ gs)).results = [.lit (.bool true)] ∧ (s.fn H (ds ++ gs)).args = ds ∧ (s.fn H (ds ++ gs)).vars = []) (hres : f.resultTypes = #[4]) (hb : Below W.heap.size W W') :
  s.post enc Tryz.prog f false true false false W args (.bool true) W' := by
 have hW' := hW
 have hlt : ∀ p ∈ before, p.block < W.heap.size := fun p hp => hW.lt p hp
 obtain ⟨p, q, hA, hV, rfl, _, _⟩ := hW
 rw [hvars] at hV
 obtain ⟨rfl, rfl⟩ := trodVars_none hV
 refine post_of_below (pa := p) (pv := []) hW' (fun _ _ _ => ?_) (fun sp hsp => ?_) (fun sp _ => ?_) rfl hb ?_
 ·rw [hspec.1, hres]
  exact trodAll_mk1 (shut_bool Tryz.underlying4 _)
 ·rw [hspec.2.1]
  simp only [List.append_nil] at hlt hsp
  exact stays_all laidOut hb _ _ _ _ hread hA hlt sp hsp
 ·rw [hspec.2.2, hvars]
  rfl
 ·rw [hres]
  intro j t r hj hr
  match j, hj, hr with
  | 0, hj, hr =>
   simp at hj
   subst hj
   simp [Value.resultList] at hr
   subst hr
   exact okWide_bool_mk Tryz.underlying4 _
  | j + 1, hj, hr => simp at hj
section
variable {H : Type} {enc : TypeId × Value → H} {P : Program} {w : World} {base : Nat} {spare : Nat → Bool} {held : Bool} {fuel : Nat} {t : TypeId} {cs : List Value} {x : DataW H × List MemPlace}
/-- Field number j of a struct, its type and offset as closed facts. -/
theorem field_at {fs : Array Field} (hs : P.underlying t = some (.struct fs)) {j : Nat} {ty : TypeId} {off k : Nat} (hj : (fs[j]?).map (fun f => (f.type, f.offset)) = some (ty, off)) (hk : P.cellsOf ty = k)
  (h : DataW.trod enc P w base spare held fuel t cs = some x) : ∃ n y, DataW.trod enc P w base spare held n ty ((cs.drop off).take k) = some y := by
 obtain ⟨xs, n, _, _, _, hxl, hf⟩ := DataW.trod_struct hs h
 cases hf0 : fs[j]? with
 | none => rw [hf0] at hj; cases hj
 | some f =>
  rw [hf0] at hj
  simp only [Option.map_some, Option.some.injEq, Prod.mk.injEq] at hj
  obtain ⟨rfl, rfl⟩ := hj
  have h1 := hf j f hf0
  have hjl : j < xs.length := by rw [hxl]; exact (Array.getElem?_eq_some_iff.1 hf0).1
  rw [List.getElem?_eq_getElem hjl, hk] at h1
  exact ⟨n, _, h1⟩
theorem struct_len {fs : Array Field} (hs : P.underlying t = some (.struct fs)) (h : DataW.trod enc P w base spare held fuel t cs = some x) : cs.length = P.cellsOf t := by
 obtain ⟨_, _, _, _, hl, _⟩ := DataW.trod_struct hs h
 exact hl
theorem intK_of {k : IntKind} {v : Value} (ht : P.underlying t = some (.int k)) (h : DataW.trod enc P w base spare held fuel t [v] = some x) : ∃ n, v = .int k n ∧ (Lit.int k n).wf = true := by
 obtain ⟨n, e, _, hw⟩ := DataW.trod_int ht h
 simp only [List.cons.injEq, and_true] at e
 exact ⟨n, e, hw⟩
theorem bool_of {v : Value} (ht : P.underlying t = some .bool) (h : DataW.trod enc P w base spare held fuel t [v] = some x) : ∃ b, v = .bool b := by
 obtain ⟨n, e, _⟩ := DataW.trod_bool ht h
 simp only [List.cons.injEq, and_true] at e
 exact ⟨n, e⟩
/-- A slice whose elements can be opened reads as a list. -/
theorem open_sl {α : Type} {ec : α → List Value} {wf : α → Prop} {e : TypeId} {k : Nat} (ht : P.underlying t = some (.slice e)) (hk : P.cellsOf e = k) (hk0 : Nat.blt 0 k = true)
  (hel : ∀ n cs y, DataW.trod enc P w base spare held n e cs = some y → ∃ a, cs = ec a ∧ wf a) (h : DataW.trod enc P w base spare held fuel t cs = some x) :
  ∃ (A : Option Addr) (n c : Nat) (xs : List α), cs = [.slice A n c] ∧ SW A n c xs.length ∧ RdE w k ec A xs ∧ ∀ a ∈ xs, wf a := by
 have hk0' : 0 < k := by simpa using hk0
 rcases open_slice ht h with ⟨rfl, _⟩ | ⟨a, len, cap, m, n, D, Pl, rfl, hb, hl, hm, hmm, _, hi⟩
 ·exact ⟨none, 0, 0, [], rfl, SW.nil, RdE.nil, fun a ha => by cases ha⟩
 ·have hlm : len ≤ m := by rw [hmm]; split <;> omega
  rw [hk] at hi
  have hx : ∀ i : Fin len, ∃ a' : α, ∃ cs, (cs = ec a' ∧ wf a') ∧ cs.length = k ∧ ∀ j, j < k → w.cell? ((a.add (i.1 * k)).add j) = cs[j]? := fun i => by
   obtain ⟨cs', hc, ht'⟩ := hi i.1 (by omega)
   obtain ⟨a', ha⟩ := hel _ _ _ ht'
   obtain ⟨_, hcl, hat⟩ := World.cells?_some hc
   exact ⟨a', cs', ha, hcl, hat⟩
  have hlen : (List.ofFn fun i : Fin len => Classical.choose (hx i)).length = len := by simp
  refine ⟨some a, len, cap, List.ofFn fun i : Fin len => Classical.choose (hx i), rfl, ⟨by simp, hl, hlen.symm⟩, ⟨by rw [hlen]; unfold maxLen at hm; omega, fun hp => ?_⟩, fun y hy => ?_⟩
  ·have hp' : 0 < len := by simpa using hp
   obtain ⟨cs0, _, hcl0, hat0⟩ := Classical.choose_spec (hx ⟨0, hp'⟩)
   have h00 := hat0 0 hk0'
   obtain ⟨b, off, spot⟩ := a
   have hc0 : w.cell? ⟨b, off, spot⟩ = some (cs0[0]'(by omega)) := by
    have e0 : ((⟨b, off, spot⟩ : Addr).add (0 * k)).add 0 = ⟨b, off, spot⟩ := by simp [Addr.add]
    rw [← e0]; rw [h00]; exact List.getElem?_eq_getElem (by omega)
   have hspot : spot = none := by simpa using World.cell?_spot hc0
   subst hspot
   refine ⟨b, off, rfl, World.block_lt_of_cell? _ _ hc0, fun i x hx' => ?_⟩
   obtain ⟨hil, rfl⟩ := List.getElem?_eq_some_iff.1 hx'
   have hil' : i < len := by simpa using hil
   obtain ⟨cs1, hR, hcl1, hat1⟩ := Classical.choose_spec (hx ⟨i, hil'⟩)
   refine ⟨cs1, hcl1, by simpa using hR.1, fun j u hu => ?_⟩
   have hj : j < k := by rw [← hcl1]; exact (List.getElem?_eq_some_iff.1 hu).1
   have h1 := hat1 j hj
   have e1 : ((⟨b, off, none⟩ : Addr).add (i * k)).add j = ⟨b, off + i * k + j, none⟩ := by
    unfold Addr.add
    by_cases hz : i * k = 0 <;> by_cases hj0 : j = 0 <;> simp [hz, hj0, Nat.add_assoc]
   rw [e1] at h1
   rw [h1, hu]
  ·obtain ⟨i, hi', rfl⟩ := List.mem_iff_getElem.1 hy
   have hil : i < len := by rwa [hlen] at hi'
   obtain ⟨_, hR, _⟩ := Classical.choose_spec (hx ⟨i, hil⟩)
   simpa using hR.2
end
section
variable {P : Program} {H : Type} {enc : TypeId × Value → H} {w : World} {base : Nat} {spare : Nat → Bool} {held : Bool} {r : Reach} {b0 : Nat} {v : Value} {d : DataW H} {p : List MemPlace}
theorem par_agg {t : TypeId} {fs : Array Field} (hs : P.underlying t = some (.struct fs)) (hv : Value.okWide P w r b0 t v) (h : DataW.Trod enc P w base spare held t v d p) :
  ∃ cs : List Value, v = .agg cs.toArray ∧ ∃ fuel x, DataW.trod enc P w base spare held fuel t cs = some x := by
 obtain ⟨cs, rfl, hsz⟩ := okWide_struct hs hv
 obtain ⟨fuel, hf⟩ := h
 exact ⟨cs.toList, by simp, fuel, _, by simpa [Value.cells] using hf⟩
end
end Go.Proofs.YtbnimhmoffchdaaGreatDoor
namespace Go.Proofs.YtbnimhmoffchdaaGreatDoor
open Go.ChangeShapes Go.WideShapes Go.ChangeAt Go.RowKit Go.Deep

theorem ix_nat' {α : Type} [Inhabited α] {l : List α} {i : Nat} (h : i < l.length) : ix l (i : Int) = l[i] := by
 unfold ix
 rw [List.getD_eq_getElem?_getD, Int.toNat_natCast, List.getElem?_eq_getElem h]
 rfl
section
variable {H : Type} {enc : TypeId × Value → H} {P : Program} {w : World} {base : Nat} {spare : Nat → Bool} {held : Bool} {fuel : Nat} {t : TypeId} {cs : List Value} {x : DataW H × List MemPlace}
/-- A slice whose elements hold slices reads as a list, and where each element's slice lies. -/
theorem open_slN {α : Type} [Inhabited α] {ec : α → Hdr → List Value} {wf : α → Hdr → Prop} {e : TypeId} {k : Nat} (ht : P.underlying t = some (.slice e)) (hk : P.cellsOf e = k) (hk0 : Nat.blt 0 k = true)
  (hel : ∀ n cs y, DataW.trod enc P w base spare held n e cs = some y → ∃ a h, cs = ec a h ∧ wf a h) (h : DataW.trod enc P w base spare held fuel t cs = some x) :
  ∃ (A : Option Addr) (n c : Nat) (xs : List α) (d : Int → Hdr), cs = [.slice A n c] ∧ SW A n c xs.length ∧ RdI w k (fun i x => ec x (d i)) A xs ∧ ∀ i : Int, 0 ≤ i ∧ i < xs.length → wf (ix xs i) (d i) := by
 obtain ⟨A, n, c, xs, h1, h2, h3, h4⟩ := open_sl (ec := fun p : α × Hdr => ec p.1 p.2) (wf := fun p => wf p.1 p.2) ht hk hk0 (fun n cs y hh => by
  obtain ⟨a, h, e1, e2⟩ := hel n cs y hh
  exact ⟨(a, h), e1, e2⟩) h
 refine ⟨A, n, c, xs.map (·.1), fun i => (ix xs i).2, h1, by simpa using h2, ⟨by simpa using h3.1, fun hp => ?_⟩, fun i hi => ?_⟩
 ·obtain ⟨b, off, hA, hb, hx⟩ := h3.2 (by simpa using hp)
  refine ⟨b, off, hA, hb, fun i p hp => ?_⟩
  have hil : i < xs.length := by
   have := (List.getElem?_eq_some_iff.1 hp).1
   simpa using this
  have hpe : p = (xs[i].1, i) := by
   rw [List.getElem?_zipIdx, List.getElem?_map, List.getElem?_eq_getElem hil] at hp
   simpa using hp.symm
  subst hpe
  obtain ⟨cs', hl, he, hc⟩ := hx i xs[i] (List.getElem?_eq_getElem hil)
  refine ⟨cs', hl, ?_, hc⟩
  rw [he]
  dsimp only
  rw [ix_nat' hil]
 ·have hil : i.toNat < xs.length := by have := hi.2; simp at this; omega
  have e0 : i = ((i.toNat : Nat) : Int) := by omega
  have := h4 xs[i.toNat] (List.getElem_mem hil)
  rw [e0]
  dsimp only
  rw [ix_nat' hil, ix_nat' (by simpa using hil)]
  simpa using this
end
end Go.Proofs.YtbnimhmoffchdaaGreatDoor
