/- Deco, memory: blocks that the call made, slices that are read, slices that the call owns; the operations on them. Over any program. -/
import Derived.Test.YtpbgfdmkebnjgaaGreatDoorDCore
import Derived.Laws.OwnMore
import Derived.Maps.AppendAt
namespace Go.Proofs.YtpbgfdmkebnjgaaGreatDoor
open Go.RowKit
set_option linter.unusedSectionVars false
variable [JF]

def blkE (b : Nat) (t : TypeId) (cs : List Value) : HE := ⟨fun x => x = b, fun w => Blk w b t cs, fun w w' h hb => by unfold Blk at *; rw [h b rfl]; exact hb⟩
theorem blkE_new {w0 w : World} {H : List HE} (hs : Hs w0 H w) (t : TypeId) (cs : List Value) : Hs w0 (blkE w.heap.size t cs :: H) (w.alloc (.cells cs.toArray t)) :=
  hs.push ((Below.refl _ _).alloc (Nat.le_refl _) _) (Nat.le_refl _) (Blk.new w t cs) (fun b hb => by have e1 : b = w.heap.size := hb; subst e1; exact ⟨Nat.le_refl _, by simp⟩)
theorem Hs.blk {w0 w : World} {H : List HE} (hs : Hs w0 H w) (k : Nat) {b : Nat} {t : TypeId} {cs : List Value} (hk : H[k]? = some (blkE b t cs)) : Blk w b t cs := hs.get k hk
theorem Hs.cell {w0 w : World} {H : List HE} (hs : Hs w0 H w) (k : Nat) {b : Nat} {t : TypeId} {cs : List Value} {j : Nat} {u : Value} (hk : H[k]? = some (blkE b t cs)) (hu : cs[j]? = some u) : w.cell? ⟨b, j, none⟩ = some u := (hs.blk k hk).at_ j hu
theorem Hs.cells {w0 w : World} {H : List HE} (hs : Hs w0 H w) (k : Nat) {b : Nat} {t : TypeId} {cs ds : List Value} {o : Nat} (hk : H[k]? = some (blkE b t cs)) (hd : (cs.drop o).take ds.length = ds) : ∀ j v, ds[j]? = some v → w.cell? ⟨b, o + j, none⟩ = some v := fun j v hj => by
  refine (hs.blk k hk).at_ (o + j) ?_
  rw [← hd, List.getElem?_take] at hj
  split at hj
  · rwa [List.getElem?_drop] at hj
  · cases hj
/-- Blocks of old memory. -/
theorem Hs.oblk {w0 w : World} {H : List HE} (hs : Hs w0 H w) {b : Nat} {t : TypeId} {cs : List Value} (hb : Blk w0 b t cs) : Blk w b t cs := hb.below hs.old hb.lt
theorem Hs.ocell {w0 w : World} {H : List HE} (hs : Hs w0 H w) {p : Addr} {u : Value} (h : w0.cell? p = some u) : w.cell? p = some u := (hs.old.cell (World.block_lt_of_cell? _ _ h)).trans h
section
variable {P : Program} {n : Nat} {w0 : World} {ρ : Type} {Q : ρ → Exit → Act → World → Prop} {m : Option ρ} {e : Env} {H H' : List HE} {ops : Array Oper} {rest : List Oper}
variable {dst : Option Tmp} {ty : TypeId} {ps : String} {af : Array Edge} {g : Option (Nat × Bool)}
theorem lm_box (d : Nat) {t : TypeId} {x : Operand} (cs : List Value) (hc : chk ops e n ⟨dst, .box t x, ty, ps, af, g⟩ d true = true) (hx : (eev e x).cells = cs.toArray) (next : ∀ b, Lm P n w0 ops Q rest m ((d, .pointer (some ⟨b, 0, none⟩)) :: e) (blkE b t cs :: H)) : Lm P n w0 ops Q (⟨dst, .box t x, ty, ps, af, g⟩ :: rest) m e H := fun r hr w hw =>
  wl_run d hc (by rw [← hx]; exact op_box rfl) (next _ r hr _ (blkE_new hw t cs))
theorem lm_alloc (d : Nat) {t : TypeId} (z : List Value) {v : Value} (hc : chk ops e n ⟨dst, .alloc t, ty, ps, af, g⟩ d true = true) (hz : zeroOf P t = some v) (hv : v.cells = z.toArray) (next : ∀ b, Lm P n w0 ops Q rest m ((d, .pointer (some ⟨b, 0, none⟩)) :: e) (blkE b t z :: H)) : Lm P n w0 ops Q (⟨dst, .alloc t, ty, ps, af, g⟩ :: rest) m e H := fun r hr _ hw =>
  wl_run d hc (op_alloc z hz hv) (next _ r hr _ (blkE_new hw t z))
theorem lm_store1 (k : Nat) {t : TypeId} {x y : Operand} {b j : Nat} {t0 : TypeId} {cs : List Value} {v : Value} (hc : chk0 ops e ⟨dst, .store t x y, ty, ps, af, g⟩ = true) (hx : eev e x = .pointer (some ⟨b, j, none⟩)) (hy : eev e y = v) (h1 : oneSz P t = true) (hv : v.oneCell' = true)
    (hk : H[k]? = some (blkE b t0 cs)) (hj : Nat.blt j cs.length = true) (hH : H.set k (blkE b t0 (cs.set j v)) = H') (next : Lm P n w0 ops Q rest m e H') : Lm P n w0 ops Q (⟨dst, .store t x y, ty, ps, af, g⟩ :: rest) m e H := fun r hr w hw => by
  have hb := hw.blk k hk
  have hj' : j < cs.length := by simpa using hj
  refine wl_do hc (op_store hx hy h1 hv (hb.at_ j (List.getElem?_eq_getElem hj')) (hb.free j)) (next r hr _ ?_)
  subst hH
  refine hw.set_ k hk ((Below.refl 0 w).setCell (p := ⟨b, j, none⟩) (Nat.zero_le _) v) (Nat.le_refl _) (fun c _ hc' => Below.heap_setCell w _ v c hc') (hb.set_ j v) (fun c hc' => ?_)
  have e1 : c = b := hc'
  subst e1
  exact ⟨.inl rfl, by simpa [World.setCell] using hb.lt⟩
theorem lm_storeA (k : Nat) {t : TypeId} {x y : Operand} {b j : Nat} {t0 : TypeId} {cs : List Value} (vs cs' : List Value) (hc : chk0 ops e ⟨dst, .store t x y, ty, ps, af, g⟩ = true) (hx : eev e x = .pointer (some ⟨b, j, none⟩)) (hy : (eev e y).cells = vs.toArray) (hs : sizeIs P t vs.length = true) (hv : vs.all Value.oneCell' = true)
    (hk : H[k]? = some (blkE b t0 cs)) (hj : Nat.ble (j + vs.length) cs.length = true) (hcs : cs.take j ++ vs ++ cs.drop (j + vs.length) = cs') (hH : H.set k (blkE b t0 cs') = H') (next : Lm P n w0 ops Q rest m e H') : Lm P n w0 ops Q (⟨dst, .store t x y, ty, ps, af, g⟩ :: rest) m e H := fun r hr w hw => by
  have hb := hw.blk k hk
  have hj' : j + vs.length ≤ cs.length := Nat.le_of_ble_eq_true hj
  have hl : cs.length = cs'.length := by subst hcs; simp; omega
  unfold sizeIs at hs
  cases hi : P.info? t with
  | none => rw [hi] at hs; cases hs
  | some i =>
    have hsz : i.size = vs.length := by rw [hi] at hs; exact Nat.eq_of_beq_eq_true hs
    have hst := run_storeCells_at (P := P) b j t0 vs 0 cs.toArray w hb (by simp; omega) (fun u hu => List.all_eq_true.1 hv u hu)
    have e1 : (cs.toArray.toList.take (j + 0) ++ vs ++ cs.toArray.toList.drop (j + 0 + vs.length)).toArray = cs'.toArray := by rw [← hcs]; simp
    rw [e1] at hst
    have hrun : (execOp (eev e) ⟨dst, .store t x y, ty, ps, af, g⟩).run P w = .ok .skip (w.setRow b cs'.toArray) := by
      simp only [execOp, Instr.storeAt, hx]
      simp [Instr.sureAddr, storeVar, sizeOf, typeInfo, hi, hsz, hy, hst]
    refine wl_do hc hrun (next r hr _ ?_)
    subst hH
    have hbl := below_setRow (Below.refl 0 w) (Nat.zero_le b) cs'.toArray
    refine hw.set_ k hk hbl (Nat.le_refl _) (fun c _ hc' => ?_) (blk_setRow hb _ hl) (fun c hc' => ?_)
    · have hne : b ≠ c := fun h => hc' h.symm
      simp [World.setRow, Array.getElem?_modify, hne]
    · have e1 : c = b := hc'
      subst e1
      exact ⟨.inl rfl, by simpa [World.setRow] using hb.lt⟩
end

/-! ### Slices -/
def ab (A : Option Addr) : Nat := match A with | some a => a.block | none => 0
def ao (A : Option Addr) : Nat := match A with | some a => a.off | none => 0
/-- The slice at A reads as l. -/
def RdE {α : Type} (w : World) (sz : Nat) (enc : α → List Value) (A : Option Addr) (l : List α) : Prop := Rd w w.heap.size sz (fun x cs => cs = enc x) A l
section
variable {α : Type} {w w0 : World} {sz : Nat} {enc : α → List Value} {A : Option Addr} {l : List α} {H : List HE}
theorem RdE.addr (h : RdE w sz enc A l) {i : Int} (h0 : 0 ≤ i) (h1 : i < l.length) : A = some ⟨ab A, ao A, none⟩ := by
  obtain ⟨b, off, rfl, _⟩ := h.2 (by omega)
  rfl
theorem RdE.old (h : RdE w0 sz enc A l) (hs : Hs w0 H w) : RdE w sz enc A l := (Rd.below h hs.old).more hs.old.size
theorem RdE.row [Inhabited α] (h : RdE w sz enc A l) {i : Int} (h0 : 0 ≤ i) (h1 : i < l.length) : ∀ j u, (enc (ix l i))[j]? = some u → w.cell? ⟨ab A, ao A + i.toNat * sz + j, none⟩ = some u := by
  obtain ⟨b, off, rfl, _, cs, _, rfl, hc⟩ := Rd.at_ h (ix_get h0 h1)
  exact hc
theorem RdE.cell [Inhabited α] (h : RdE w sz enc A l) {i : Int} (h0 : 0 ≤ i) (h1 : i < l.length) {j : Nat} {u : Value} (hu : (enc (ix l i))[j]? = some u) : w.cell? ⟨ab A, ao A + i.toNat * sz + j, none⟩ = some u := h.row h0 h1 j u hu
theorem RdE.cell0 [Inhabited α] (h : RdE w sz enc A l) {i : Int} (h0 : 0 ≤ i) (h1 : i < l.length) {u : Value} (hu : (enc (ix l i))[0]? = some u) : w.cell? ⟨ab A, ao A + i.toNat * sz, none⟩ = some u := h.row h0 h1 0 u hu
/-- Part of an element: cells from o on. -/
theorem RdE.part [Inhabited α] (h : RdE w sz enc A l) {i : Int} (h0 : 0 ≤ i) (h1 : i < l.length) {o : Nat} {ds : List Value} (hd : ((enc (ix l i)).drop o).take ds.length = ds) : ∀ j v, ds[j]? = some v → w.cell? ⟨ab A, ao A + i.toNat * sz + o + j, none⟩ = some v := fun j v hj => by
  have := h.row h0 h1 (o + j) v (by
    rw [← hd, List.getElem?_take] at hj
    split at hj
    · rwa [List.getElem?_drop] at hj
    · cases hj)
  rwa [Nat.add_assoc]
end
section
variable {P : Program} {e : Env} {w : World} {d : Option Tmp} {ty : TypeId} {ps : String} {af : Array Edge} {g : Option (Nat × Bool)}
theorem op_indexA {t : TypeId} {x ix : Operand} {A : Option Addr} {l c : Nat} (sz : Nat) {i : Int} (hx : eev e x = .slice A l c) (hi : eev e ix = .int .i64 i) (hs : elemSz P t = some sz) (hA : A = some ⟨ab A, ao A, none⟩) {ll : Nat} (hn : l = ll) (h0 : 0 ≤ i) (hl : i < ll) : OpV P e w ⟨d, .indexAddr t x ix, ty, ps, af, g⟩ (.pointer (some ⟨ab A, ao A + i.toNat * sz, none⟩)) := by
  subst hn
  rw [hA] at hx
  exact op_indexI hx hi hs h0 hl
end
/-- A row that the call owns: it reads as l, and nothing else lies in its block. -/
def ownE {α : Type} (el sz : Nat) (enc : α → List Value) (A : Option Addr) (n c : Nat) (l : List α) : HE :=
  ⟨fun b => (Value.slice A n c).ownBlock = some b, fun w => n = l.length ∧ w.ownsRow 0 el sz (.slice A n c) n (l.flatMap enc), fun w w' h hw => by
    refine ⟨hw.1, hw.2.1, ?_⟩
    rcases hw.2.2 with hn | ⟨gg, cap, cur, hv, hb, hh, hr⟩
    · exact .inl hn
    · refine .inr ⟨gg, cap, cur, hv, hb, ?_, hr⟩
      rw [h gg (by rw [hv]; rfl)]
      exact hh⟩
/-- What a slice's word says of itself. -/
def SW (A : Option Addr) (n c ll : Nat) : Prop := (A = none → c = 0) ∧ n ≤ c ∧ n = ll
theorem SW.nil : SW none 0 0 0 := ⟨fun _ => rfl, Nat.le_refl _, rfl⟩
theorem RdE.nil {α : Type} {w : World} {sz : Nat} {enc : α → List Value} {A : Option Addr} : RdE w sz enc A ([] : List α) := Rd.nil
/-- A fact on old memory, carried along. -/
def roE (φ : Prop) : HE := ⟨fun _ => False, fun _ => φ, fun _ _ _ h => h⟩
theorem Hs.ro {w0 w : World} {H : List HE} (hs : Hs w0 H w) (k : Nat) {φ : Prop} (hk : H[k]? = some (roE φ)) : φ := hs.get k hk
theorem Hs.own {α : Type} {w0 w : World} {H : List HE} (hs : Hs w0 H w) (k : Nat) {el sz : Nat} {enc : α → List Value} {A : Option Addr} {n c : Nat} {l : List α} (hk : H[k]? = some (ownE el sz enc A n c l)) (hz : ∀ x, (enc x).length = sz) : RdE w sz enc A l := by
  obtain ⟨h1, h2⟩ := hs.get k hk
  subst h1
  exact (Rd.of_own hz h2).2
theorem Hs.ownZ {α : Type} {w0 w : World} {H : List HE} (hs : Hs w0 H w) (k : Nat) {el sz : Nat} {enc : α → List Value} {A : Option Addr} {n c : Nat} {l : List α} (hk : H[k]? = some (ownE el sz enc A n c l)) : SW A n c l.length := by
  obtain ⟨h1, h2⟩ := hs.get k hk
  rcases h2.2 with ⟨hv, h0⟩ | ⟨gg, cap, cur, hv, _, _, hnc, _⟩
  · injection hv with a1 a2 a3
    exact ⟨fun _ => a3, by omega, h1⟩
  · injection hv with a1 a2 a3
    subst a3
    exact ⟨(fun hA => by rw [hA] at a1; cases a1), hnc, h1⟩
theorem Hs.ownNil {α : Type} {w0 w : World} {H : List HE} (hs : Hs w0 H w) (el sz : Nat) (enc : α → List Value) : Hs w0 (ownE el sz enc none 0 0 ([] : List α) :: H) w :=
  ⟨hs.old, hs.dr, ⟨rfl, by simp, .inl ⟨rfl, rfl⟩⟩, fun b hb => by simp [ownE, Value.ownBlock] at hb, fun k _ b hb => by simp [ownE, Value.ownBlock] at hb, hs.sep⟩
theorem Hs.pushRo {w0 w : World} {H : List HE} (hs : Hs w0 H w) {φ : Prop} (h : φ) : Hs w0 (roE φ :: H) w := ⟨hs.old, hs.dr, h, fun _ hb => hb.elim, fun _ _ _ hb => hb.elim, hs.sep⟩
theorem own_shape {w : World} {el sz : Nat} {v : Value} {n : Nat} {xs : List Value} (h : w.ownsRow 0 el sz v n xs) : ∃ A c, v = .slice A n c := by
  rcases h.2 with ⟨rfl, h0⟩ | ⟨g, cap, cur, rfl, _⟩
  · exact ⟨none, 0, by rw [h0]⟩
  · exact ⟨_, cap, rfl⟩
section
variable {P : Program} {n : Nat} {w0 : World} {ρ : Type} {Q : ρ → Exit → Act → World → Prop} {m : Option ρ} {e : Env} {H H' : List HE} {ops : Array Oper} {rest : List Oper}
variable {dst : Option Tmp} {ty : TypeId} {ps : String} {af : Array Edge} {g : Option (Nat × Bool)} {α : Type}
theorem lm_nilrow (el sz : Nat) (enc : α → List Value) {l : List Oper} (h : Lm P n w0 ops Q l m e (ownE el sz enc none 0 0 ([] : List α) :: H)) : Lm P n w0 ops Q l m e H := fun r hr w hw => h r hr w (hw.ownNil el sz enc)
theorem cm_nilrow (el sz : Nat) (enc : α → List Value) {c : Code} (h : Cm P n w0 c Q m e (ownE el sz enc none 0 0 ([] : List α) :: H)) : Cm P n w0 c Q m e H := fun r hr w hw => h r hr w (hw.ownNil el sz enc)
theorem xm_nilrow (el sz : Nat) (enc : α → List Value) {x : Exit} (h : Xm n w0 Q x m e (ownE el sz enc none 0 0 ([] : List α) :: H)) : Xm n w0 Q x m e H := fun r hr w hw => h r hr w (hw.ownNil el sz enc)
theorem xm_ro {φ : Prop} (hφ : φ) {x : Exit} (h : Xm n w0 Q x m e (roE φ :: H)) : Xm n w0 Q x m e H := fun r hr w hw => h r hr w (hw.pushRo hφ)
theorem cm_ro {φ : Prop} (hφ : φ) {c : Code} (h : Cm P n w0 c Q m e (roE φ :: H)) : Cm P n w0 c Q m e H := fun r hr w hw => h r hr w (hw.pushRo hφ)
theorem enc_one {enc : α → List Value} (h1 : ∀ x, (enc x).all Value.oneCell' = true) (l : List α) : ∀ u ∈ l.flatMap enc, u.oneCell' = true := fun u hu => by
  obtain ⟨x, _, hx⟩ := List.mem_flatMap.1 hu
  exact List.all_eq_true.1 (h1 x) u hx
/-- Cells of a slice that is read, behind its address. -/
theorem RdE.flat {w : World} {sz : Nat} {enc : α → List Value} {ad : Addr} {l : List α} (h : RdE w sz enc (some ad) l) (hz : ∀ x, (enc x).length = sz) : ∀ j u, (l.flatMap enc)[j]? = some u → w.cell? (ad.add j) = some u := fun j u hu => by
  have hj : j < (l.flatMap enc).length := (List.getElem?_eq_some_iff.1 hu).1
  rw [flat_len hz] at hj
  have hsz : 0 < sz := by
    rcases Nat.eq_zero_or_pos sz with h0 | h0
    · subst h0; simp at hj
    · exact h0
  have hi : j / sz < l.length := Nat.div_lt_of_lt_mul (by rw [Nat.mul_comm]; exact hj)
  obtain ⟨b, off, e1, _, cs, _, rfl, hc⟩ := Rd.at_ h (List.getElem?_eq_getElem hi)
  injection e1 with e1
  subst e1
  have hm : j % sz < sz := Nat.mod_lt _ hsz
  have hjj : j / sz * sz + j % sz = j := by rw [Nat.mul_comm]; exact Nat.div_add_mod j sz
  have hf := flat_at hz l (j / sz) _ (List.getElem?_eq_getElem hi) (j % sz) hm
  rw [hjj, hu] at hf
  have hq := hc (j % sz) u hf.symm
  have hadd : (⟨b, off, none⟩ : Addr).add j = ⟨b, off + j, none⟩ := by unfold Addr.add; split <;> simp_all
  rw [hadd]
  rw [Nat.add_assoc, hjj] at hq
  exact hq
/-- append to a row that is owned: where it lies behind it; the count of draws does not fall. -/
theorem run_append_dr (w : World) (t ty el : TypeId) (i : TypeInfo) (z : Value) (size bytes : Nat) (ht : P.underlying t = some (.slice el)) (hi : P.info? el = some i) (hz : i.zero = some z) (hsize : i.size = size) (hby : i.bytes = bytes) (hzs : z.cells.size = size) (hsz : 0 < size)
    (v : Value) (k : Nat) (xs : List Value) (hown : w.ownsRow 0 el size v k xs) (a : Addr) (mm c : Nat) (news : List Value) (hl : news.length = mm * size) (hnews : ∀ j u, news[j]? = some u → w.cell? (a.add j) = some u) (h1 : ∀ u ∈ news, u.oneCell' = true)
    (h63 : k + mm ≤ maxLen) (hbytes : (k + mm) * bytes ≤ 140737488355328) :
    ∃ v' w', (Builtin.append_ #[t, t] ty #[v, .slice (some a) mm c]).run P w = .ok v' w' ∧ w'.ownsRow 0 el size v' (k + mm) (xs ++ news) ∧ w.grownBy w' v.ownBlock ∧ (v'.ownBlock = v.ownBlock ∨ v'.ownBlock = some w.heap.size) ∧ w.drawn ≤ w'.drawn := by
  obtain ⟨v', w', hr, ho, hg, _, hat⟩ := run_append_own_at (P := P) w 0 t ty el i z size bytes ht hi hz hsize hby hzs hsz v k xs hown a mm c news hl hnews h1 h63 hbytes (Nat.zero_le _)
  refine ⟨v', w', hr, ho, hg, hat, ?_⟩
  subst hsize
  subst hby
  have hsmall : k + mm ≤ 9223372036854775807 := by simp only [maxLen] at h63; omega
  have same : ∀ {v2 : Value} {w2 : World}, (Builtin.append_ #[t, t] ty #[v, .slice (some a) mm c]).run P w = .ok v2 w2 → w.drawn ≤ w2.drawn → w.drawn ≤ w'.drawn := fun h2 h3 => by
    rw [hr] at h2
    injection h2 with _ h2
    rw [h2]; exact h3
  rcases hown.2 with ⟨rfl, rfl⟩ | ⟨gg, cap, cur, rfl, hbg, hg2, hnc, hcm, hcs, htake⟩
  · by_cases hm : mm = 0
    · subst hm
      refine same (v2 := .slice none 0 0) (w2 := w) ?_ (Nat.le_refl _)
      simp [Builtin.append_, run_underlying ht, sizeOf, typeInfo, hi, Builtin.lenOf, Builtin.firstCells, loadCells, loadCellsFrom]
    · have hr2 := run_append_nil (P := P) w t ty el i z ht hi hz a mm c news hl hnews (by omega) (by omega) (by have hb := hbytes; simp only [Nat.zero_add] at hb; omega)
      exact same hr2 (by simp)
  · by_cases hroom : k + mm ≤ cap
    · have hfit : k * i.size + news.length ≤ cur.size := by rw [hl, hcs, ← Nat.add_mul]; exact Nat.mul_le_mul_right _ hroom
      have hr2 := run_append_room (P := P) w t ty el i ht hi gg k cap cur hg2 a mm c news hl hnews h1 hroom hfit
      exact same hr2 (by simp)
    · have holds : ∀ j u, xs[j]? = some u → w.cell? ((⟨gg, 0, none⟩ : Addr).add j) = some u := hown.cells (g := gg) rfl
      have hr2 := run_append_grow (P := P) w t ty el i z ht hi hz ⟨gg, 0, none⟩ k cap xs hown.1 holds a mm c news hl hnews (by omega) (by omega) (growslice_fits (by omega) hbytes)
      exact same hr2 (by simp)
/-- append(s, x...): s is owned, x is read. -/
theorem run_appendE {w : World} (k : Nat) {s x : Operand} {t el sz bytes : Nat} {enc : α → List Value} {A A2 : Option Addr} {n1 c n2 c2 : Nat} {l l2 : List α} (hT : rowOk P t el sz bytes = true) (hz : ∀ x, (enc x).length = sz) (h1 : ∀ x, (enc x).all Value.oneCell' = true)
    (hk : H[k]? = some (ownE el sz enc A n1 c l)) (hs : eev e s = .slice A n1 c) (hx : eev e x = .slice A2 n2 c2) (hA2 : SW A2 n2 c2 l2.length) (rd : RdE w sz enc A2 l2) (hlen : (l.length + l2.length) * bytes ≤ 140737488355328) (hl63 : l.length + l2.length ≤ 9223372036854775807) (hw : Hs w0 H w) :
    ∃ A' n' c' w', (execOp (eev e) ⟨dst, .call ⟨.builtin .append, #[s, x], #[t, t]⟩, ty, ps, af, g⟩).run P w = .ok (.value (.slice A' n' c')) w' ∧ Hs w0 (H.set k (ownE el sz enc A' n' c' (l ++ l2))) w' := by
  obtain ⟨hn1, hown⟩ := hw.get k hk
  subst hn1
  obtain ⟨hAn, _, hn2⟩ := hA2
  subst hn2
  obtain ⟨hu, i, z, hi, hzz, q1, q2, q3, q4⟩ := rowOk_spec hT
  cases A2 with
  | none =>
    have h2 : l2 = [] := by
      cases l2 with
      | nil => rfl
      | cons y ys => obtain ⟨b, off, e1, _⟩ := rd.2 (by simp); cases e1
    subst h2
    obtain rfl := hAn rfl
    have hr := run_append_owned_none (P := P) w 0 t ty el i sz hu hi _ _ _ hown
    rw [List.append_nil]
    refine ⟨A, l.length, c, w, ?_, ?_⟩
    · simp only [execOp, resolve, invoke, builtin, Sem.run_bind, Sem.run_pure, Result.andThen_ok, List.map_toArray, List.map_cons, List.map_nil, hs, hx, List.length_nil, hr]
    · have : H.set k (ownE el sz enc A l.length c l) = H := by
        refine List.ext_getElem? fun j => ?_
        rw [List.getElem?_set]
        split
        · rename_i hjk; subst hjk
          split
          · exact hk.symm
          · rename_i hlt; rw [List.getElem?_eq_none (by omega)] at hk; cases hk
        · rfl
      rw [this]; exact hw
  | some ad =>
    obtain ⟨v', w', hr, ho, hg, hat, hdr⟩ := run_append_dr (P := P) w t ty el i z sz bytes hu hi hzz q1 q2 q3 q4 (.slice A l.length c) l.length (l.flatMap enc) hown ad l2.length c2 (l2.flatMap enc) (flat_len hz l2) (rd.flat hz) (enc_one h1 l2) (by unfold maxLen; exact hl63) hlen
    have ho' : w'.ownsRow 0 el sz v' (l ++ l2).length ((l ++ l2).flatMap enc) := by
      rw [List.length_append, List.flatMap_append]; exact ho
    obtain ⟨A', c', rfl⟩ := own_shape ho'
    refine ⟨A', (l ++ l2).length, c', w', ?_, ?_⟩
    · simp only [execOp, resolve, invoke, builtin, Sem.run_bind, Sem.run_pure, Result.andThen_ok, List.map_toArray, List.map_cons, List.map_nil, hs, hx, hr]
    · refine hw.set_ k hk ⟨hg.os, hg.tape, hg.output, hg.size, fun b hb => absurd hb (Nat.not_lt_zero _)⟩ hdr (fun b hb hne => hg.block b hb fun h => hne h.symm) ⟨rfl, ho'⟩ (fun b hb => ⟨?_, (ho'.lt b hb).2⟩)
      have hb' : (Value.slice A' (l ++ l2).length c').ownBlock = some b := hb
      rcases hat with hat | hat
      · exact .inl (by rw [hb'] at hat; exact hat.symm)
      · rw [hb'] at hat
        injection hat with hat
        exact .inr (by omega)
theorem lm_append (d k : Nat) {s x : Operand} {t el sz bytes : Nat} {enc : α → List Value} {A A2 : Option Addr} {n1 c n2 c2 : Nat} {l l2 : List α}
    (hc : chk ops e n ⟨dst, .call ⟨.builtin .append, #[s, x], #[t, t]⟩, ty, ps, af, g⟩ d true = true) (hT : rowOk P t el sz bytes = true) (hz : ∀ x, (enc x).length = sz) (h1 : ∀ x, (enc x).all Value.oneCell' = true) (hk : H[k]? = some (ownE el sz enc A n1 c l)) (hs : eev e s = .slice A n1 c)
    (hx : eev e x = .slice A2 n2 c2) (hA2 : ∀ w, Hs w0 H w → SW A2 n2 c2 l2.length) (rd : ∀ w, Hs w0 H w → RdE w sz enc A2 l2) (hlen : (l.length + l2.length) * bytes ≤ 140737488355328)
    (next : ∀ A' n' c', Lm P n w0 ops Q rest m ((d, .slice A' n' c') :: e) (H.set k (ownE el sz enc A' n' c' (l ++ l2)))) (hby : Nat.blt 0 bytes = true) :
    Lm P n w0 ops Q (⟨dst, .call ⟨.builtin .append, #[s, x], #[t, t]⟩, ty, ps, af, g⟩ :: rest) m e H := fun r hr w hw => by
  have hb : 0 < bytes := by simpa using hby
  have h63 : l.length + l2.length ≤ 9223372036854775807 := Nat.le_trans (Nat.le_mul_of_pos_right _ hb) (Nat.le_trans hlen (by decide))
  obtain ⟨A', n', c', w', hrun, hw'⟩ := run_appendE (dst := dst) (ty := ty) (ps := ps) (af := af) (g := g) k hT hz h1 hk hs hx (hA2 w hw) (rd w hw) hlen h63 hw
  exact wl_run d hc hrun (next A' n' c' r hr w' hw')
/-- Rows that are made: '[]T{..}' of one element, of none. -/
theorem lm_slice1 (d : Nat) {t el sz bytes : Nat} {x : Operand} {enc : α → List Value} (v : α) (hc : chk ops e n ⟨dst, .buildSlice t 1 #[(0, x)], ty, ps, af, g⟩ d true = true) (hT : rowOk P t el sz bytes = true) (hz : ∀ x, (enc x).length = sz) (hx : (eev e x).cells = (enc v).toArray) (hs : Nat.ble sz 1000 = true)
    (next : ∀ A n' c, A ≠ none → Lm P n w0 ops Q rest m ((d, .slice A n' c) :: e) (ownE el sz enc A n' c [v] :: H)) : Lm P n w0 ops Q (⟨dst, .buildSlice t 1 #[(0, x)], ty, ps, af, g⟩ :: rest) m e H := fun r hr w hw => by
  refine wl_run d hc (op_slice1 (enc v) hT hx (hz v) hs) (next (some ⟨w.heap.size, 0, none⟩) 1 1 (by simp) r hr _ ?_)
  refine hw.push ((Below.refl _ _).alloc (Nat.le_refl _) _) (Nat.le_refl _) ?_ (fun b hb => ?_)
  · exact ⟨rfl, by simp [hz], .inr ⟨w.heap.size, 1, (enc v).toArray, rfl, Nat.zero_le _, heap_alloc_new w _, Nat.le_refl _, by decide, by simp [hz], by have := hz v; simp; rw [← this]; exact List.take_length⟩⟩
  · have e1 : b = w.heap.size := by simpa [ownE, Value.ownBlock] using hb.symm
    subst e1; exact ⟨Nat.le_refl _, by simp⟩
theorem lm_slice0 (d : Nat) {t el sz bytes : Nat} {enc : α → List Value} (hc : chk ops e n ⟨dst, .buildSlice t 0 #[], ty, ps, af, g⟩ d true = true) (hT : rowOk P t el sz bytes = true)
    (next : ∀ A n' c, A ≠ none → Lm P n w0 ops Q rest m ((d, .slice A n' c) :: e) (ownE el sz enc A n' c ([] : List α) :: H)) : Lm P n w0 ops Q (⟨dst, .buildSlice t 0 #[], ty, ps, af, g⟩ :: rest) m e H := fun r hr w hw => by
  refine wl_run d hc (op_slice0 hT) (next (some ⟨w.heap.size, 0, none⟩) 0 0 (by simp) r hr _ ?_)
  refine hw.push ((Below.refl _ _).alloc (Nat.le_refl _) _) (Nat.le_refl _) ?_ (fun b hb => ?_)
  · exact ⟨rfl, by simp, .inr ⟨w.heap.size, 0, #[], rfl, Nat.zero_le _, heap_alloc_new w _, Nat.le_refl _, by decide, by simp, by simp⟩⟩
  · have e1 : b = w.heap.size := by simpa [ownE, Value.ownBlock] using hb.symm
    subst e1; exact ⟨Nat.le_refl _, by simp⟩
theorem made_flat {z : α} {enc : α → List Value} {sz : Nat} (hz : (enc z).length = sz) (hp : 0 < sz) (n : Nat) : (madeCells (enc z).toArray (n * sz)).toList = (List.replicate n z).flatMap enc := by
  refine List.ext_getElem? fun j => ?_
  have hk : ∀ x ∈ List.replicate n z, (enc x).length = sz := fun x hx => by rw [(List.mem_replicate.1 hx).2]; exact hz
  by_cases hj : j < n * sz
  · have hi : j / sz < n := Nat.div_lt_of_lt_mul (by rw [Nat.mul_comm]; exact hj)
    have hm : j % sz < sz := Nat.mod_lt _ hp
    have hjj : j / sz * sz + j % sz = j := by rw [Nat.mul_comm]; exact Nat.div_add_mod j sz
    have h2 : ∀ n i j, i < n → j < sz → ((List.replicate n z).flatMap enc)[i * sz + j]? = (enc z)[j]? := by
      intro n
      induction n with
      | zero => intro i j hi; omega
      | succ n ih =>
        intro i j hi hj
        rw [List.replicate_succ, List.flatMap_cons]
        cases i with
        | zero => rw [Nat.zero_mul, Nat.zero_add, List.getElem?_append_left (by omega)]
        | succ i =>
          rw [List.getElem?_append_right (by rw [hz, Nat.succ_mul]; omega), hz, ← ih i j (by omega) hj]
          congr 1
          rw [Nat.succ_mul]; omega
    have h3 := h2 n (j / sz) (j % sz) hi hm
    rw [hjj] at h3
    rw [h3]
    simp only [madeCells]
    have hlt : j % sz < (enc z).length := by omega
    simp [hj, hz, List.getElem?_eq_getElem hlt]
  · have h4 : ((List.replicate n z).flatMap enc).length = n * sz := by
      clear hj
      induction n with
      | zero => simp
      | succ n ih => rw [List.replicate_succ, List.flatMap_cons, List.length_append, ih (fun x hx => by rw [(List.mem_replicate.1 hx).2]; exact hz), hz, Nat.succ_mul]; omega
    rw [List.getElem?_eq_none (by simp [madeCells]; omega), List.getElem?_eq_none (by rw [h4]; omega)]
/-- make([]T, n). -/
theorem lm_make (d : Nat) {t el sz bytes : Nat} {x y : Operand} {enc : α → List Value} (z : α) {zv : Value} {i : Int} (hc : chk ops e n ⟨dst, .makeSlice t x y, ty, ps, af, g⟩ d true = true) (hT : rowOk P t el sz bytes = true) (hzv : zeroOf P el = some zv) (hzc : zv.cells = (enc z).toArray) (hz : ∀ x, (enc x).length = sz)
    (hx : eev e x = .int .i64 i) (hy : eev e y = .int .i64 i) (h0 : 0 ≤ i) (hb : i.toNat * bytes ≤ 140737488355328) (hbp : Nat.blt 0 bytes = true)
    (next : ∀ A n' c, A ≠ none → Lm P n w0 ops Q rest m ((d, .slice A n' c) :: e) (ownE el sz enc A n' c (List.replicate i.toNat z) :: H)) : Lm P n w0 ops Q (⟨dst, .makeSlice t x y, ty, ps, af, g⟩ :: rest) m e H := fun r hr w hw => by
  obtain ⟨hu, inf, z', hi, hzz, q1, q2, q3, q4⟩ := rowOk_spec hT
  have hbp' : 0 < bytes := by simpa using hbp
  have hzv' : z' = zv := by
    unfold zeroOf at hzv
    rw [hi] at hzv
    simp [hzz] at hzv
    exact hzv
  subst hzv'
  have h63 : i.toNat ≤ maxLen := by
    have : i.toNat ≤ i.toNat * bytes := Nat.le_mul_of_pos_right _ hbp'
    unfold maxLen; omega
  obtain ⟨w', hrun, ho, hg⟩ := run_make_full (P := P) w 0 t el inf z' sz hu hi hzz q1 .i64 .i64 i.toNat (by rw [q2, Nat.mul_comm]; omega) h63 (Nat.zero_le _)
  have hdr : w.drawn ≤ w'.drawn := by
    have hb' : (inf.bytes : Int) * ((i.toNat : Nat) : Int) ≤ 281474976710656 := by
      have h : ((inf.bytes * i.toNat : Nat) : Int) ≤ 281474976710656 := by rw [q2, Nat.mul_comm]; omega
      rwa [Int.natCast_mul] at h
    have hr2 := run_make (P := P) w t el inf z' hu hi hzz .i64 .i64 i.toNat i.toNat (by omega) (Int.le_refl _) hb' (by unfold maxLen at h63; omega)
    simp only [Int.toNat_natCast] at hr2
    rw [hrun] at hr2
    injection hr2 with _ hr2
    rw [hr2]; simp
  have hii : ((i.toNat : Nat) : Int) = i := Int.toNat_of_nonneg h0
  rw [hii] at hrun
  have hlr : (List.replicate i.toNat z).length = i.toNat := List.length_replicate
  have hrun2 : (execOp (eev e) ⟨dst, .makeSlice t x y, ty, ps, af, g⟩).run P w = .ok (.value (.slice (some ⟨w.heap.size, 0, none⟩) i.toNat i.toNat)) w' := by
    simp [execOp, hx, hy, hrun]
  refine wl_run d hc hrun2 (next (some ⟨w.heap.size, 0, none⟩) i.toNat i.toNat (by simp) r hr _ ?_)
  have ho2 : w'.ownsRow 0 el sz (.slice (some ⟨w.heap.size, 0, none⟩) i.toNat i.toNat) i.toNat ((List.replicate i.toNat z).flatMap enc) := by
    rw [← made_flat (hz z) q4, ← hzc]; exact ho
  refine hw.push ⟨hg.os, hg.tape, hg.output, hg.size, fun b hb => hg.block b hb (by simp)⟩ hdr ⟨hlr.symm, ho2⟩ (fun b hb => ?_)
  have e1 : b = w.heap.size := by simpa [ownE, Value.ownBlock] using hb.symm
  subst e1
  exact ⟨Nat.le_refl _, (ho2.lt _ rfl).2⟩
end
end Go.Proofs.YtpbgfdmkebnjgaaGreatDoor
