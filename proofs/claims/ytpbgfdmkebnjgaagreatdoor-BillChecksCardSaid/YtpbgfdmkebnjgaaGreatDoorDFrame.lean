/- Deco: functions that change what they are handed: a frame packed into one entry; calls of such functions; stores in drawn regions; parts of rows that are cleared or cut. Over any program. -/
import Derived.Test.YtpbgfdmkebnjgaaGreatDoorDMap
import Derived.Test.YtpbgfdmkebnjgaaGreatDoorDCopy
import Derived.Lib.SliceRun
namespace Go.Proofs.YtpbgfdmkebnjgaaGreatDoor
open Go.RowKit
set_option linter.unusedSectionVars false
variable [JF]

theorem Sep.keep' {B : Nat} {w w' : World} : ∀ {H : List HE}, (∀ k ∈ H, ∀ b, k.S b → w'.heap[b]? = w.heap[b]?) → Sep B H w → Sep B H w'
  | [], _, _ => trivial
  | h :: _, hb, hs => ⟨h.loc w w' (hb h (List.mem_cons_self ..)) hs.1, fun b hS => ⟨(hs.2.1 b hS).1, by
      have h1 := (hs.2.1 b hS).2
      have h2 := hb h (List.mem_cons_self ..) b hS
      rw [Array.getElem?_eq_getElem h1] at h2
      exact (Array.getElem?_eq_some_iff.1 h2).1⟩, hs.2.2.1, Sep.keep' (fun k hk => hb k (List.mem_cons_of_mem _ hk)) hs.2.2.2⟩
/-- Entries packed into one. -/
def packE (B : Nat) (F : List HE) : HE := ⟨fun b => ∃ h ∈ F, h.S b, fun w => Sep B F w, fun _ _ hb hs => hs.keep' fun k hk b hS => hb b ⟨k, hk, hS⟩⟩
theorem Sep.split {B : Nat} {w : World} : ∀ {G H : List HE}, Sep B (G ++ H) w → Sep B G w ∧ Sep B H w ∧ ∀ g ∈ G, ∀ h ∈ H, ∀ b, g.S b → ¬ h.S b
  | [], _, hs => ⟨trivial, hs, fun _ hg => by cases hg⟩
  | g :: G, H, hs => by
    obtain ⟨h1, h2, h3⟩ := Sep.split (G := G) (H := H) hs.2.2.2
    refine ⟨⟨hs.1, hs.2.1, fun k hk => hs.2.2.1 k (List.mem_append_left _ hk), h1⟩, h2, fun x hx h hh => ?_⟩
    rcases List.mem_cons.1 hx with rfl | hx
    · exact hs.2.2.1 h (List.mem_append_right _ hh)
    · exact h3 x hx h hh
theorem Hs.pack {w0 w : World} {I F : List HE} (h : Hs w0 (I ++ F) w) : Hs w0 (I ++ [packE w0.heap.size F]) w := by
  obtain ⟨h1, h2, h3⟩ := h.sep.split
  refine ⟨h.old, h.dr, h1.append (show Sep w0.heap.size [packE w0.heap.size F] w from ⟨h2, fun b hb => (by obtain ⟨k, hk, hb⟩ := hb; exact h2.lt k hk b hb), fun _ hk => (by cases hk), trivial⟩) fun g hg x hx b hb hxb => ?_⟩
  obtain rfl := List.mem_singleton.1 hx
  obtain ⟨k, hk, hkb⟩ := hxb
  exact h3 g hg k hk b hb hkb
theorem Hs.unpack {w0 w : World} {I F : List HE} (h : Hs w0 (I ++ [packE w0.heap.size F]) w) : Hs w0 (I ++ F) w := by
  obtain ⟨h1, h2, h3⟩ := h.sep.split
  refine ⟨h.old, h.dr, h1.append h2.1 fun g hg x hx b hb hxb => ?_⟩
  exact h3 g hg _ (List.mem_singleton.2 rfl) b hb ⟨x, hx, hxb⟩
section
variable {P : Program} {n : Nat} {w0 : World} {ρ : Type} {Q : ρ → Exit → Act → World → Prop} {m : Option ρ} {e : Env} {H H' : List HE} {ops : Array Oper} {o : Oper} {rest : List Oper}
theorem calls_cmH {f : FuncId} {fn : Func} {c : Code} {args : List Value} {R : ρ → Ending → World → Prop} (hf : P.funcs[f]? = some fn) (hb : fn.body = some c) (hn : fn.ntmps = n) (hl : args.length ≤ n)
    (h : Cm P n w0 c (fun r => bodyPost P fn (R r)) m (argEnv 0 args) H) {w : World} (hw : Hs w0 H w) (r : ρ) (hr : m = some r) : Calls P f args.toArray w (R r) :=
  calls_wc hf hb hn hl (h r hr w hw)
/-- A call of a function that may change what it is handed: I is handed on, F stays. -/
theorem lm_callH (d : Nat) {α ξ : Type} {f : FuncId} {args : Array Value} {mf : Option α} {k : α → Option ρ} {V : α → ξ → Value} (I F : List HE) {O : α → ξ → List HE} (hS : HSub w0 H (I ++ F)) (hc : chk ops e n o d true = true)
    (hv : ∀ w, (execOp (eev e) o).run P w = .ok (.enter f args) w)
    (hR : ∀ r, mf = some r → ∀ w, Hs w0 (I ++ [packE w0.heap.size F]) w → Calls P f args w fun x w' => ∃ u, x = .returned (V r u) ∧ Hs w0 (O r u ++ [packE w0.heap.size F]) w')
    (next : ∀ r u, Lm P n w0 ops Q rest (k r) ((d, V r u) :: e) (O r u ++ F)) : Lm P n w0 ops Q (o :: rest) (mf.bind k) e H := fun r hr w hw => by
  cases hm : mf with
  | none => rw [hm] at hr; cases hr
  | some a =>
    rw [hm] at hr
    refine wl_call d hc (hv w) (hR a hm w (hS w hw).pack) ?_
    rintro x w' ⟨u, rfl, hu⟩
    exact ⟨_, rfl, next a u r hr w' hu.unpack⟩
end
section
variable {σ : Type} {P : Program} {n : Nat} {ops : Array Oper} {E : σ → Env} {HQ : σ → World → Prop} {S : World → Prop} {fuel : Nat} {listed : Array Bool} {e : Env} {w w0 : World} {o : Oper} {H : List HE} {dst : Option Tmp} {ty : TypeId} {ps : String} {af : Array Edge} {g : Option (Nat × Bool)} {α : Type}
theorem ws_callH {i : Nat} (d : Nat) {ξ : Type} {f : FuncId} {args : Array Value} {V : ξ → Value} (I F : List HE) {O : ξ → List HE} (hS : HSub w0 H (I ++ F)) (hi : ops[i]? = some o) (hc : chk ops e n o d true = true) (hv : (execOp (eev e) o).run P w = .ok (.enter f args) w) (hw : Hs w0 H w)
    (hR : Hs w0 (I ++ [packE w0.heap.size F]) w → Calls P f args w fun x w' => ∃ u, x = .returned (V u) ∧ Hs w0 (O u ++ [packE w0.heap.size F]) w')
    (next : ∀ u w', Hs w0 (O u ++ F) w' → S w' ∧ wh P n ops E HQ S fuel (done listed i) ((d, V u) :: e) w') : ws P n ops E HQ S fuel listed e w i :=
  ws_call d hi hc hv (hR (hS w hw).pack) fun _ w' ⟨u, hx, hu⟩ => ⟨V u, hx, next u w' hu.unpack⟩
/-- Stores in drawn regions. -/
theorem ws_store1 {i : Nat} (k : Nat) {t : TypeId} {x y : Operand} {b j : Nat} {t0 : TypeId} {cs : List Value} {v : Value} (hi : ops[i]? = some ⟨dst, .store t x y, ty, ps, af, g⟩) (hc : chk0 ops e ⟨dst, .store t x y, ty, ps, af, g⟩ = true) (hx : eev e x = .pointer (some ⟨b, j, none⟩)) (hy : eev e y = v) (h1 : oneSz P t = true) (hv : v.oneCell' = true)
    (hk : H[k]? = some (blkE b t0 cs)) (hj : Nat.blt j cs.length = true) {H' : List HE} (hH : H.set k (blkE b t0 (cs.set j v)) = H') (hw : Hs w0 H w)
    (next : ∀ w', Hs w0 H' w' → S w' ∧ wh P n ops E HQ S fuel (done listed i) e w') : ws P n ops E HQ S fuel listed e w i := by
  have hb := hw.blk k hk
  have hj' : j < cs.length := by simpa using hj
  have hw' : Hs w0 H' (w.setCell ⟨b, j, none⟩ v) := by
    subst hH
    refine hw.set_ k hk ((Below.refl 0 w).setCell (p := ⟨b, j, none⟩) (Nat.zero_le _) v) (Nat.le_refl _) (fun c _ hc' => Below.heap_setCell w _ v c hc') (hb.set_ j v) (fun c hc' => ?_)
    have e1 : c = b := hc'
    subst e1
    exact ⟨.inl rfl, by simpa [World.setCell] using hb.lt⟩
  obtain ⟨h1', h2'⟩ := next _ hw'
  exact ws_do hi hc (op_store hx hy h1 hv (hb.at_ j (List.getElem?_eq_getElem hj')) (hb.free j)) h1' h2'
theorem ws_storeA {i : Nat} (k : Nat) {t : TypeId} {x y : Operand} {b j : Nat} {t0 : TypeId} {cs : List Value} (vs cs' : List Value) (hi : ops[i]? = some ⟨dst, .store t x y, ty, ps, af, g⟩) (hc : chk0 ops e ⟨dst, .store t x y, ty, ps, af, g⟩ = true) (hx : eev e x = .pointer (some ⟨b, j, none⟩)) (hy : (eev e y).cells = vs.toArray) (hs : sizeIs P t vs.length = true) (hv : vs.all Value.oneCell' = true)
    (hk : H[k]? = some (blkE b t0 cs)) (hj : Nat.ble (j + vs.length) cs.length = true) (hcs : cs.take j ++ vs ++ cs.drop (j + vs.length) = cs') {H' : List HE} (hH : H.set k (blkE b t0 cs') = H') (hw : Hs w0 H w)
    (next : ∀ w', Hs w0 H' w' → S w' ∧ wh P n ops E HQ S fuel (done listed i) e w') : ws P n ops E HQ S fuel listed e w i := by
  have hb := hw.blk k hk
  have hj' : j + vs.length ≤ cs.length := Nat.le_of_ble_eq_true hj
  have hl : cs.length = cs'.length := by subst hcs; simp; omega
  unfold sizeIs at hs
  cases hin : P.info? t with
  | none => rw [hin] at hs; cases hs
  | some inf =>
    have hsz : inf.size = vs.length := by rw [hin] at hs; exact Nat.eq_of_beq_eq_true hs
    have hst := run_storeCells_at (P := P) b j t0 vs 0 cs.toArray w hb (by simp; omega) (fun u hu => List.all_eq_true.1 hv u hu)
    have e1 : (cs.toArray.toList.take (j + 0) ++ vs ++ cs.toArray.toList.drop (j + 0 + vs.length)).toArray = cs'.toArray := by rw [← hcs]; simp
    rw [e1] at hst
    have hrun : (execOp (eev e) ⟨dst, .store t x y, ty, ps, af, g⟩).run P w = .ok .skip (w.setRow b cs'.toArray) := by
      simp only [execOp, Instr.storeAt, hx]
      simp [Instr.sureAddr, storeVar, sizeOf, typeInfo, hin, hsz, hy, hst]
    have hw' : Hs w0 H' (w.setRow b cs'.toArray) := by
      subst hH
      have hbl := below_setRow (Below.refl 0 w) (Nat.zero_le b) cs'.toArray
      refine hw.set_ k hk hbl (Nat.le_refl _) (fun c _ hc' => ?_) (blk_setRow hb _ hl) (fun c hc' => ?_)
      · have hne : b ≠ c := fun h => hc' h.symm
        simp [World.setRow, Array.getElem?_modify, hne]
      · have e1 : c = b := hc'
        subst e1
        exact ⟨.inl rfl, by simpa [World.setRow] using hb.lt⟩
    obtain ⟨h1', h2'⟩ := next _ hw'
    exact ws_do hi hc hrun h1' h2'
theorem ws_alloc {i : Nat} (d : Nat) {t : TypeId} (z : List Value) {v : Value} (hi : ops[i]? = some ⟨dst, .alloc t, ty, ps, af, g⟩) (hc : chk ops e n ⟨dst, .alloc t, ty, ps, af, g⟩ d true = true) (hz : zeroOf P t = some v) (hv : v.cells = z.toArray) (hw : Hs w0 H w)
    (next : ∀ b w', Hs w0 (blkE b t z :: H) w' → S w' ∧ wh P n ops E HQ S fuel (done listed i) ((d, .pointer (some ⟨b, 0, none⟩)) :: e) w') : ws P n ops E HQ S fuel listed e w i := by
  obtain ⟨h1, h2⟩ := next _ _ (blkE_new hw t z)
  exact ws_run d hi hc (op_alloc z hz hv) h1 h2
theorem ws_box {i : Nat} (d : Nat) {t : TypeId} {x : Operand} (cs : List Value) (hi : ops[i]? = some ⟨dst, .box t x, ty, ps, af, g⟩) (hc : chk ops e n ⟨dst, .box t x, ty, ps, af, g⟩ d true = true) (hx : (eev e x).cells = cs.toArray) (hw : Hs w0 H w)
    (next : ∀ b w', Hs w0 (blkE b t cs :: H) w' → S w' ∧ wh P n ops E HQ S fuel (done listed i) ((d, .pointer (some ⟨b, 0, none⟩)) :: e) w') : ws P n ops E HQ S fuel listed e w i := by
  obtain ⟨h1, h2⟩ := next _ _ (blkE_new hw t cs)
  exact ws_run d hi hc (by rw [← hx]; exact op_box rfl) h1 h2
theorem ws_mapUpdate {κ : Type} [DecidableEq κ] {i : Nat} (j : Nat) {k : TypeId} {ek : κ → Value} {ev : α → Value} {b : Nat} {l : List (κ × α)} {t el : TypeId} {x ix v : Operand} {y : κ} {a : α} (hi : ops[i]? = some ⟨dst, .mapUpdate t x ix v, ty, ps, af, g⟩) (hc : chk0 ops e ⟨dst, .mapUpdate t x ix v, ty, ps, af, g⟩ = true) (hx : eev e x = .map (some b)) (hix : eev e ix = ek y) (hv : eev e v = ev a)
    (K : Maps.Keyed P k) (hinj : ∀ x y, ek x = ek y → x = y) (hky : ∃ lit, keyOf P k (ek y) = some lit) (ht : P.underlying t = some (.map k el)) (hj : H[j]? = some (mapE P k ek ev b l)) {H' : List HE} (hH : H.set j (mapE P k ek ev b (mput l y a)) = H') (hw : Hs w0 H w)
    (next : ∀ w', Hs w0 H' w' → S w' ∧ wh P n ops E HQ S fuel (done listed i) e w') : ws P n ops E HQ S fuel listed e w i := by
  obtain ⟨w', hrun, hm', hb, hd, ho⟩ := (hw.map j hj).put K hinj hky ht a
  have hw' : Hs w0 H' w' := by
    subst hH
    refine hw.set_ j hj hb (Nat.le_of_eq hd.symm) (fun c _ hc' => ho c hc') hm' (fun c hc' => ?_)
    have e1 : c = b := hc'
    subst e1
    exact ⟨.inl rfl, hm'.lt⟩
  obtain ⟨h1', h2'⟩ := next _ hw'
  exact ws_do hi hc (w' := w') (by simp [execOp, hx, hix, hv, hrun]) h1' h2'
end
theorem wl_run0 {P : Program} {n : Nat} {ops : Array Oper} {Q : Exit → Act → World → Prop} {e : Env} {w w' : World} {o : Oper} {rest : List Oper} {v : Value} (hc : chk0 ops e o = true) (hv : (execOp (eev e) o).run P w = .ok (.value v) w') (next : wl P n ops Q rest e w') : wl P n ops Q (o :: rest) e w := fun a hf => by
  obtain ⟨hd, hs, hg, hk⟩ := chk0_spec hc
  refine wpList_step fun K hK => ?_
  rw [if_pos (gOk_wanted hf hg)]
  unfold Oper.wp
  rw [exec_fr hf hs hk, hv]
  simp only [Oper.upon]
  rw [hd]
  exact hK _ _ (next _ (hf.put_none v))
theorem own_blk (A : Option Addr) (n i c : Nat) : (Value.slice A n c).ownBlock = (Value.slice A i c).ownBlock := by cases A <;> rfl
/-- A row that is owned, cut: its beginning is owned. -/
theorem Hs.cut {α : Type} {w0 w : World} {H H' : List HE} (hs : Hs w0 H w) (k : Nat) {el sz : Nat} {enc : α → List Value} {A : Option Addr} {n c : Nat} {l : List α} {i : Int} (hk : H[k]? = some (ownE el sz enc A n c l)) (hz : ∀ x, (enc x).length = sz) (h0 : 0 ≤ i) (h1 : i ≤ l.length)
    (hH : H.set k (ownE el sz enc A i.toNat c (l.take i.toNat)) = H') : Hs w0 H' w := by
  subst hH
  obtain ⟨hn, hown⟩ := hs.get k hk
  have hi : i.toNat ≤ l.length := by omega
  have hmul : i.toNat * sz ≤ l.length * sz := Nat.mul_le_mul_right _ hi
  refine hs.set_ k hk (Below.refl 0 w) (Nat.le_refl _) (fun _ _ _ => rfl) ⟨by simp; omega, ?_, ?_⟩ (fun b hb => ⟨.inl ((own_blk A n i.toNat c).trans hb), ((hs.at_ k hk).2 b ((own_blk A n i.toNat c).trans hb)).2⟩)
  · rw [flat_take hz, List.length_take, flat_len hz]; omega
  · rcases hown.2 with ⟨hv, h00⟩ | ⟨gg, cap, cur, hv, hb, hh, hnc, hm, hsz, htk⟩
    · injection hv with a1 a2 a3
      subst a1 a3
      have : i.toNat = 0 := by omega
      rw [this]
      exact .inl ⟨rfl, rfl⟩
    · injection hv with a1 a2 a3
      refine .inr ⟨gg, cap, cur, by rw [a1, a3], hb, hh, by omega, hm, hsz, ?_⟩
      rw [flat_take hz, ← htk, List.take_take, Nat.min_eq_left (by rw [hn]; exact hmul)]
section
variable {P : Program} {n : Nat} {w0 : World} {ρ : Type} {Q : ρ → Exit → Act → World → Prop} {m : Option ρ} {e : Env} {H H' : List HE} {ops : Array Oper} {rest : List Oper} {α : Type}
variable {dst : Option Tmp} {ty : TypeId} {ps : String} {af : Array Edge} {g : Option (Nat × Bool)}
theorem xm_cut (k : Nat) {el sz : Nat} {enc : α → List Value} {A : Option Addr} {n1 c : Nat} {l : List α} {i : Int} (hk : H[k]? = some (ownE el sz enc A n1 c l)) (hz : ∀ x, (enc x).length = sz) (h0 : 0 ≤ i) (h1 : i ≤ l.length)
    (hH : H.set k (ownE el sz enc A i.toNat c (l.take i.toNat)) = H') {x : Exit} (h : Xm n w0 Q x m e H') : Xm n w0 Q x m e H := fun r hr w hw => h r hr w (hw.cut k hk hz h0 h1 hH)
theorem cm_cut (k : Nat) {el sz : Nat} {enc : α → List Value} {A : Option Addr} {n1 c : Nat} {l : List α} {i : Int} (hk : H[k]? = some (ownE el sz enc A n1 c l)) (hz : ∀ x, (enc x).length = sz) (h0 : 0 ≤ i) (h1 : i ≤ l.length)
    (hH : H.set k (ownE el sz enc A i.toNat c (l.take i.toNat)) = H') {x : Code} (h : Cm P n w0 x Q m e H') : Cm P n w0 x Q m e H := fun r hr w hw => h r hr w (hw.cut k hk hz h0 h1 hH)
/-- What clear leaves of l: nought from place o on. -/
def clearAt (l : List α) (o : Nat) (z : α) : List α := l.take o ++ List.replicate (l.length - o) z
theorem clearAt_len (l : List α) {o : Nat} (z : α) (h : o ≤ l.length) : (clearAt l o z).length = l.length := by simp [clearAt]; omega
/-- clear(s[i:]): a part of a row that is owned; elements of one cell. -/
theorem lm_clear (k : Nat) {x : Operand} {t el bytes : Nat} {enc : α → List Value} {A A1 : Option Addr} {n1 c n2 c2 : Nat} {l : List α} (o : Nat) (z : α) {zv : Value} (hc : chk0 ops e ⟨dst, .call ⟨.builtin .clear, #[x], #[t]⟩, ty, ps, af, g⟩ = true) (hT : rowOk P t el 1 bytes = true) (hz : ∀ x, (enc x).length = 1) (h1 : ∀ x, (enc x).all Value.oneCell' = true)
    (hzv : zeroOf P el = some zv) (hze : enc z = [zv]) (hzc : zv.cells = #[zv]) (hk : H[k]? = some (ownE el 1 enc A n1 c l)) (hd : eev e x = .slice A1 n2 c2) (hA1 : ∀ w, Hs w0 H w → 0 < n2 → A1 = some ⟨ab A, ao A + o * 1, none⟩) (hn2 : ∀ w, Hs w0 H w → n2 = l.length - o) (ho : o ≤ l.length)
    (next : Lm P n w0 ops Q rest m e (H.set k (ownE el 1 enc A n1 c (clearAt l o z)))) : Lm P n w0 ops Q (⟨dst, .call ⟨.builtin .clear, #[x], #[t]⟩, ty, ps, af, g⟩ :: rest) m e H := fun r hr w hw => by
  obtain ⟨hn, hown⟩ := hw.get k hk
  have hA1 := hA1 w hw
  have hn2 := hn2 w hw
  obtain ⟨hu, inf, z', hi, hzz, q1, q2, q3, q4⟩ := rowOk_spec hT
  have hzv' : z' = zv := by
    unfold zeroOf at hzv
    rw [hi] at hzv
    simp [hzz] at hzv
    exact hzv
  subst hzv'
  have hv0 : ∀ w, (zeroValue el).run P w = .ok z' w := fun w => by simp [zeroValue, typeInfo, hi, hzz]
  have hone : z'.oneCell' = true := by
    have := List.all_eq_true.1 (h1 z) z' (by rw [hze]; simp)
    exact this
  rcases Nat.eq_zero_or_pos n2 with h0 | hp
  · have hsame : clearAt l o z = l := by
      unfold clearAt
      rw [show l.length - o = 0 by omega, List.replicate_zero, List.append_nil, List.take_of_length_le (by omega)]
    rw [hsame, set_same hk] at next
    refine wl_run0 hc (w' := w) (v := .tuple #[]) ?_ (next r hr w hw)
    simp only [execOp, resolve, invoke, builtin, Sem.run_bind, Sem.run_pure, Result.andThen_ok, List.map_toArray, List.map_cons, List.map_nil, hd]
    subst h0
    cases A1 <;> simp [Builtin.clear_, run_underlying hu]
  · obtain rfl := hA1 hp
    rcases hown.2 with ⟨_, h00⟩ | ⟨gg, cap, cur, hvv, _, hh, hnc, hmx, hsz, htk⟩
    · omega
    · injection hvv with a1 a2 a3
      subst a1
      have hab : ab (some (⟨gg, 0, none⟩ : Addr)) = gg := rfl
      have hao : ao (some (⟨gg, 0, none⟩ : Addr)) = 0 := rfl
      rw [hab, hao, Nat.zero_add, Nat.mul_one] at hd
      have hlenl : l.length ≤ cap := by omega
      have hcs : cur.size = cap := by omega
      have hrl : (List.replicate n2 z').length = n2 := List.length_replicate
      have hst := run_storeCells_at (P := P) gg o el (List.replicate n2 z') 0 cur w hh (by rw [hrl]; omega) (fun u hu => by rw [(List.mem_replicate.1 hu).2]; exact hone)
      simp only [Nat.add_zero, hrl] at hst
      have hzcs : (Builtin.zeroCells z'.cells n2).toList = List.replicate n2 z' := by
        rw [hzc]
        simp only [Builtin.zeroCells]
        apply List.ext_getElem
        · simp
        · intro j _ _
          simp [Nat.mod_one]
      have hrun : (Builtin.clear_ #[t] ty #[.slice (some ⟨gg, o, none⟩) n2 c2]).run P w = .ok (.tuple #[]) (w.setRow gg (cur.toList.take o ++ List.replicate n2 z' ++ cur.toList.drop (o + n2)).toArray) := by
        cases n2 with
        | zero => omega
        | succ k => simp only [Builtin.clear_]; simp [run_underlying hu, hv0, hzcs, hst, Result.andThen]
      refine wl_run0 hc (v := .tuple #[]) (w' := w.setRow gg (cur.toList.take o ++ List.replicate n2 z' ++ cur.toList.drop (o + n2)).toArray) ?_ (next r hr _ ?_)
      · simp only [execOp, resolve, invoke, builtin, Sem.run_bind, Sem.run_pure, Result.andThen_ok, List.map_toArray, List.map_cons, List.map_nil, hd, hrun]
      · refine hw.set_ k hk (below_setRow (Below.refl 0 w) (Nat.zero_le gg) _) (Nat.le_refl _) (fun b _ hb' => ?_) ⟨by rw [clearAt_len l z ho]; exact hn, ?_, .inr ⟨gg, cap, _, by rw [a3], Nat.zero_le _, setRow_heap w gg cur _ el _ hh, hnc, hmx, ?_, ?_⟩⟩ (fun b hb' => ?_)
        · exact setRow_other w gg b _ (fun e1 => hb' (by rw [e1]; rfl))
        · rw [flat_len hz, clearAt_len l z ho, hn]
        · have hcl : cur.toList.length = cap := by simpa using hcs
          simp only [List.size_toArray, List.length_append, List.length_take, List.length_drop, hcl, hrl]
          omega
        · have hcl : cur.toList.length = cap := by simpa using hcs
          have hrep : (List.replicate (l.length - o) z).flatMap enc = List.replicate n2 z' := by
            rw [hn2]
            generalize l.length - o = q
            clear next
            induction q with
            | zero => rfl
            | succ q ih => rw [List.replicate_succ, List.flatMap_cons, ih, hze, List.replicate_succ]; rfl
          simp only [clearAt, List.flatMap_append, hrep]
          rw [flat_take hz l o, ← htk, Nat.mul_one, Nat.mul_one]
          rw [List.take_append, List.take_append, List.take_take, List.take_take, Nat.min_eq_right (by omega), Nat.min_eq_left (by omega)]
          simp only [List.length_append, List.length_take, hcl, hrl]
          rw [Nat.min_eq_left (by omega), List.take_of_length_le (l := List.replicate n2 z') (by rw [hrl]; omega)]
          have : n1 - (o + n2) = 0 := by omega
          rw [this]
          simp
        · have e1 : b = gg := by simpa [ownE, Value.ownBlock] using hb'.symm
          subst e1
          exact ⟨.inl rfl, by simpa [World.setRow] using (Array.getElem?_eq_some_iff.1 hh).1⟩
end
end Go.Proofs.YtpbgfdmkebnjgaaGreatDoor
