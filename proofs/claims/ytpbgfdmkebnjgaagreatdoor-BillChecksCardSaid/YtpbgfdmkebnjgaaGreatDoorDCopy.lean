/- Deco: parts of slices from an index on, copy, integers of other kinds, conversions. Over any program. -/
import Derived.Test.YtpbgfdmkebnjgaaGreatDoorDOps3
namespace Go.Proofs.YtpbgfdmkebnjgaaGreatDoor
open Go.RowKit
set_option linter.unusedSectionVars false
variable [JF]

def adv (A : Option Addr) (c : Nat) (i : Int) (sz : Nat) : Option Addr := if c = i.toNat then A else A.map (·.add (i.toNat * sz))
section
variable {P : Program} {e : Env} {w w0 : World} {d : Option Tmp} {ty : TypeId} {ps : String} {af : Array Edge} {g : Option (Nat × Bool)} {α : Type} {H : List HE}
theorem add_lit (b o j : Nat) : (⟨b, o, none⟩ : Addr).add j = ⟨b, o + j, none⟩ := by unfold Addr.add; split <;> simp_all
theorem RdE.drop {sz : Nat} {enc : α → List Value} {A : Option Addr} {n c : Nat} {l : List α} {i : Int} (h : RdE w sz enc A l) (hs : SW A n c l.length) (_ : 0 ≤ i) (h1 : i ≤ l.length) : RdE w sz enc (adv A c i sz) (l.drop i.toNat) := by
  obtain ⟨_, s2, s3⟩ := hs
  refine ⟨Nat.le_trans (by simp) h.1, fun hp => ?_⟩
  rw [List.length_drop] at hp
  obtain ⟨b, off, rfl, hb, hc⟩ := h.2 (by omega)
  have hne : ¬ c = i.toNat := by omega
  refine ⟨b, off + i.toNat * sz, by simp [adv, hne, add_lit], hb, fun k x hx => ?_⟩
  rw [List.getElem?_drop] at hx
  obtain ⟨cs, q1, q2, q3⟩ := hc _ x hx
  refine ⟨cs, q1, q2, fun j u hu => ?_⟩
  have := q3 j u hu
  rw [Nat.add_mul, ← Nat.add_assoc] at this
  exact this
theorem SW.drop {A : Option Addr} {n c sz : Nat} {l : List α} {i : Int} (h : SW A n c l.length) (_ : 0 ≤ i) (h1 : i ≤ l.length) : SW (adv A c i sz) (n - i.toNat) (c - i.toNat) (l.drop i.toNat).length := by
  obtain ⟨a1, a2, a3⟩ := h
  refine ⟨fun hA => ?_, by omega, by rw [List.length_drop]; omega⟩
  unfold adv at hA
  split at hA
  · omega
  · have hA' : A = none := by cases A with
      | none => rfl
      | some a => simp at hA
    have := a1 hA'
    omega
theorem op_sliceFrom {t : TypeId} {x lo : Operand} {A : Option Addr} {n c : Nat} {l : List α} {i : Int} (sz : Nat) (hx : eev e x = .slice A n c) (hh : eev e lo = .int .i64 i) (ht : isSliceT P t = true) (hs : elemSz P t = some sz) (hw : SW A n c l.length) (h0 : 0 ≤ i) (h1 : i ≤ l.length) :
    OpV P e w ⟨d, .slice t x (some lo) none none, ty, ps, af, g⟩ (.slice (adv A c i sz) (n - i.toNat) (c - i.toNat)) := by
  obtain ⟨a1, a2, a3⟩ := hw
  obtain ⟨k, rfl⟩ := Int.eq_ofNat_of_zero_le h0
  unfold isSliceT at ht
  split at ht
  · rename_i E hu
    cases hE : P.info? E with
    | none => exact absurd hs (by rw [elemSz, hu]; simp [hE])
    | some inf =>
      have hsz : inf.size = sz := by rw [elemSz, hu] at hs; simpa [hE] using hs
      have hkn : k ≤ n := by omega
      simp only [OpV, execOp, Instr.sliceAt, hx, Option.map_some, Option.map_none, hh]
      simp [run_underlying hu, Instr.slice, Instr.sliceBounds, Instr.sliceBound, asIntOf, hkn, sizeOf, typeInfo, hE, adv, hsz]
  · cases ht
theorem set_same {H : List HE} {k : Nat} {h : HE} (hk : H[k]? = some h) : H.set k h = H := by
  refine List.ext_getElem? fun j => ?_
  rw [List.getElem?_set]
  split
  · rename_i hjk; subst hjk
    split
    · exact hk.symm
    · rename_i hlt; rw [List.getElem?_eq_none (by omega)] at hk; cases hk
  · rfl
theorem flat_take {enc : α → List Value} {sz : Nat} (hz : ∀ x, (enc x).length = sz) : ∀ (l : List α) (k : Nat), (l.take k).flatMap enc = (l.flatMap enc).take (k * sz)
  | [], k => by simp
  | x :: l, 0 => by simp
  | x :: l, k + 1 => by
    rw [List.take_succ_cons, List.flatMap_cons, List.flatMap_cons, flat_take hz l k, List.take_append, hz]
    have e1 : (k + 1) * sz - sz = k * sz := by rw [Nat.succ_mul]; omega
    have hx := hz x
    rw [e1, List.take_of_length_le (l := enc x) (by rw [hx, Nat.succ_mul]; omega)]
theorem flat_drop {enc : α → List Value} {sz : Nat} (hz : ∀ x, (enc x).length = sz) : ∀ (l : List α) (k : Nat), (l.drop k).flatMap enc = (l.flatMap enc).drop (k * sz)
  | [], k => by simp
  | x :: l, 0 => by simp
  | x :: l, k + 1 => by
    have hx := hz x
    rw [List.drop_succ_cons, List.flatMap_cons, flat_drop hz l k, List.drop_append, hz]
    have e1 : (k + 1) * sz - sz = k * sz := by rw [Nat.succ_mul]; omega
    rw [e1, List.drop_of_length_le (l := enc x) (by rw [hx, Nat.succ_mul]; omega)]
    simp
/-- What copy leaves of l: m elements of l2 from place o on. -/
def copyAt (l : List α) (o : Nat) (l2 : List α) (m : Nat) : List α := l.take o ++ l2.take m ++ l.drop (o + m)
theorem copyAt_len {l l2 : List α} {o m : Nat} (h1 : o + m ≤ l.length) (h2 : m ≤ l2.length) : (copyAt l o l2 m).length = l.length := by simp [copyAt]; omega
/-- copy(d, s): d is a part of an owned row, from place o on. -/
theorem rn_copy (k : Nat) {x y : Operand} {t t' el sz bytes : Nat} {enc : α → List Value} {A A1 A2 : Option Addr} {n c n1 c1 n2 c2 : Nat} {l l2 : List α} (o : Nat) (hT : rowOk P t el sz bytes = true) (hz : ∀ x, (enc x).length = sz) (h1 : ∀ x, (enc x).all Value.oneCell' = true)
    (hk : H[k]? = some (ownE el sz enc A n c l)) (hd : eev e x = .slice A1 n1 c1) (hA1 : 0 < n1 → A1 = some ⟨ab A, ao A + o * sz, none⟩) (hn1 : n1 = l.length - o) (ho : o ≤ l.length)
    (hs : eev e y = .slice A2 n2 c2) (hsw : SW A2 n2 c2 l2.length) (rd : RdE w sz enc A2 l2) (hw : Hs w0 H w) :
    ∃ w', (execOp (eev e) ⟨d, .call ⟨.builtin .copy, #[x, y], #[t, t']⟩, ty, ps, af, g⟩).run P w = .ok (.value (.int .i64 ((min (l.length - o) l2.length : Nat) : Int))) w' ∧ Hs w0 (H.set k (ownE el sz enc A n c (copyAt l o l2 (min (l.length - o) l2.length)))) w' := by
  obtain ⟨hn, hown⟩ := hw.get k hk
  obtain ⟨hA2, _, hn2⟩ := hsw
  obtain ⟨hu, i, z, hi, hzz, q1, q2, q3, q4⟩ := rowOk_spec hT
  subst hn1 hn2
  have hmin : Nat.min l2.length (l.length - o) = min (l.length - o) l2.length := Nat.min_comm _ _
  rcases Nat.eq_zero_or_pos (min (l.length - o) l2.length) with hm | hm
  · have hsame : copyAt l o l2 (min (l.length - o) l2.length) = l := by rw [hm]; simp [copyAt]
    refine ⟨w, ?_, by rw [hsame, set_same hk]; exact hw⟩
    have hb : (Builtin.copy_ #[t, t'] ty #[.slice A1 (l.length - o) c1, .slice A2 l2.length c2]).run P w = .ok (goInt 0) w := by
      cases A2 with
      | none => cases A1 <;> simp [Builtin.copy_, run_underlying hu, Builtin.lenOf, Builtin.firstCells, sizeOf, typeInfo, hi, hmin, hm, storeCells]
      | some a2 => cases A1 <;> simp [Builtin.copy_, run_underlying hu, Builtin.lenOf, Builtin.firstCells, sizeOf, typeInfo, hi, hmin, hm, storeCells, loadCells, loadCellsFrom]
    simp only [execOp, resolve, invoke, builtin, Sem.run_bind, Sem.run_pure, Result.andThen_ok, List.map_toArray, List.map_cons, List.map_nil, hd, hs, hb, hm]
    rfl
  · have hl0 : 0 < l.length := by omega
    have hl2 : 0 < l2.length := by omega
    obtain ⟨b2, o2, rfl, _⟩ := rd.2 hl2
    have hA1' := hA1 (by omega)
    subst hA1'
    rcases hown.2 with ⟨_, h00⟩ | ⟨gg, cap, cur, hvv, _, hh, hnc, hmx, hsz, htk⟩
    · omega
    · injection hvv with a1 a2 a3
      subst a1
      have hab : ab (some (⟨gg, 0, none⟩ : Addr)) = gg := rfl
      have hao : ao (some (⟨gg, 0, none⟩ : Addr)) = 0 := rfl
      rw [hab, hao, Nat.zero_add] at hd
      generalize hmm : min (l.length - o) l2.length = m at *
      have hml : o + m ≤ l.length := by omega
      have hm2 : m ≤ l2.length := by omega
      have hfl : ((l2.take m).flatMap enc).length = m * sz := by rw [flat_len hz, List.length_take, Nat.min_eq_left hm2]
      have hcells : ∀ j u, ((l2.take m).flatMap enc)[j]? = some u → w.cell? ((⟨b2, o2, none⟩ : Addr).add j) = some u := fun j u hu => rd.flat hz j u (by
        rw [flat_take hz, List.getElem?_take] at hu
        split at hu
        · exact hu
        · cases hu)
      have hf := run_firstCells_some (P := P) w sz m ⟨b2, o2, none⟩ l2.length c2 _ hfl hcells
      have hcap : l.length * sz ≤ cap * sz := Nat.mul_le_mul_right _ (by omega)
      have hom : o * sz + m * sz ≤ l.length * sz := by rw [← Nat.add_mul]; exact Nat.mul_le_mul_right _ hml
      have hst := run_storeCells_at (P := P) gg (o * sz) el ((l2.take m).flatMap enc) 0 cur w hh (by rw [hfl]; omega) (enc_one h1 _)
      simp only [Nat.add_zero] at hst
      have hb : (Builtin.copy_ #[t, t'] ty #[.slice (some ⟨gg, o * sz, none⟩) (l.length - o) c1, .slice (some ⟨b2, o2, none⟩) l2.length c2]).run P w = .ok (goInt m) (w.setRow gg (cur.toList.take (o * sz) ++ (l2.take m).flatMap enc ++ cur.toList.drop (o * sz + ((l2.take m).flatMap enc).length)).toArray) := by
        simp [Builtin.copy_, run_underlying hu, Builtin.lenOf, sizeOf, typeInfo, hi, q1, hmin, hf, hst]
      refine ⟨_, by simp only [execOp, resolve, invoke, builtin, Sem.run_bind, Sem.run_pure, Result.andThen_ok, List.map_toArray, List.map_cons, List.map_nil, hd, hs, hb]; rfl, ?_⟩
      refine hw.set_ k hk (below_setRow (Below.refl 0 w) (Nat.zero_le gg) _) (Nat.le_refl _) (fun b _ hb' => ?_) ⟨by rw [copyAt_len hml hm2]; exact hn, ?_, .inr ⟨gg, cap, _, by rw [a3], Nat.zero_le _, setRow_heap w gg cur _ el _ hh, hnc, hmx, ?_, ?_⟩⟩ (fun b hb' => ?_)
      · exact setRow_other w gg b _ (fun e1 => hb' (by rw [e1]; rfl))
      · rw [flat_len hz, copyAt_len hml hm2, hn]
      · have hcl : cur.toList.length = cap * sz := by simpa using hsz
        simp only [List.size_toArray, List.length_append, List.length_take, List.length_drop, hcl, hfl]
        omega
      · have hcl : cur.toList.length = cap * sz := by simpa using hsz
        have hN : n * sz = l.length * sz := by rw [hn]
        simp only [copyAt, List.flatMap_append]
        rw [flat_take hz l o, flat_drop hz l (o + m), ← htk, hfl, hN]
        rw [List.take_append, List.take_append, List.take_take, List.take_take, Nat.min_eq_right (by omega), Nat.min_eq_left (by omega)]
        simp only [List.length_append, List.length_take, hcl, hfl]
        rw [Nat.min_eq_left (by omega), List.take_of_length_le (l := (l2.take m).flatMap enc) (by rw [hfl]; omega), List.drop_take, ← Nat.add_mul]
      · have e1 : b = gg := by simpa [ownE, Value.ownBlock] using hb'.symm
        subst e1
        exact ⟨.inl rfl, by simpa [World.setRow] using (Array.getElem?_eq_some_iff.1 hh).1⟩
end
section
variable {P : Program} {e : Env} {w w0 : World} {d : Option Tmp} {ty : TypeId} {ps : String} {af : Array Edge} {g : Option (Nat × Bool)} {α : Type} {H : List HE}
theorem adv_at {sz : Nat} {enc : α → List Value} {A : Option Addr} {n c : Nat} {l : List α} {i : Int} (h : RdE w sz enc A l) (hs : SW A n c l.length) (_ : 0 ≤ i) (h1 : i ≤ l.length) : 0 < n - i.toNat → adv A c i sz = some ⟨ab A, ao A + i.toNat * sz, none⟩ := fun hp => by
  obtain ⟨_, s2, s3⟩ := hs
  obtain ⟨b, off, rfl, _⟩ := h.2 (by omega)
  have hne : ¬ c = i.toNat := by omega
  simp [adv, hne, add_lit, ab, ao]
theorem own_at {sz : Nat} {enc : α → List Value} {A : Option Addr} {n c : Nat} {l : List α} (h : RdE w sz enc A l) (hs : SW A n c l.length) : 0 < n → A = some ⟨ab A, ao A + 0 * sz, none⟩ := fun hp => by
  obtain ⟨_, s2, s3⟩ := hs
  obtain ⟨b, off, rfl, _⟩ := h.2 (by omega)
  simp [ab, ao]
section
variable {m : Nat} {ρ : Type} {Q : ρ → Exit → Act → World → Prop} {mm : Option ρ} {ops : Array Oper} {rest : List Oper}
theorem lm_copy (dd k : Nat) {x y : Operand} {t t' el sz bytes : Nat} {enc : α → List Value} {A A1 A2 : Option Addr} {n c n1 c1 n2 c2 : Nat} {l l2 : List α} (o : Nat) (hc : chk ops e m ⟨d, .call ⟨.builtin .copy, #[x, y], #[t, t']⟩, ty, ps, af, g⟩ dd true = true) (hT : rowOk P t el sz bytes = true) (hz : ∀ x, (enc x).length = sz) (h1 : ∀ x, (enc x).all Value.oneCell' = true)
    (hk : H[k]? = some (ownE el sz enc A n c l)) (hd : eev e x = .slice A1 n1 c1) (hA1 : ∀ w, Hs w0 H w → 0 < n1 → A1 = some ⟨ab A, ao A + o * sz, none⟩) (hn1 : ∀ w, Hs w0 H w → n1 = l.length - o) (ho : o ≤ l.length)
    (hs : eev e y = .slice A2 n2 c2) (hsw : ∀ w, Hs w0 H w → SW A2 n2 c2 l2.length) (rd : ∀ w, Hs w0 H w → RdE w sz enc A2 l2)
    (next : Lm P m w0 ops Q rest mm ((dd, .int .i64 ((min (l.length - o) l2.length : Nat) : Int)) :: e) (H.set k (ownE el sz enc A n c (copyAt l o l2 (min (l.length - o) l2.length))))) : Lm P m w0 ops Q (⟨d, .call ⟨.builtin .copy, #[x, y], #[t, t']⟩, ty, ps, af, g⟩ :: rest) mm e H := fun r hr w hw => by
  obtain ⟨w', hrun, hw'⟩ := rn_copy (d := d) (ty := ty) (ps := ps) (af := af) (g := g) (t' := t') k o hT hz h1 hk hd (hA1 w hw) (hn1 w hw) ho hs (hsw w hw) (rd w hw) hw
  exact wl_run dd hc hrun (next r hr w' hw')
end
section
variable {σ : Type} {nn : Nat} {ops : Array Oper} {E : σ → Env} {HQ : σ → World → Prop} {S : World → Prop} {fuel : Nat} {listed : Array Bool}
theorem ws_copy {i : Nat} (dd k : Nat) {x y : Operand} {t t' el sz bytes : Nat} {enc : α → List Value} {A A1 A2 : Option Addr} {n c n1 c1 n2 c2 : Nat} {l l2 : List α} (o : Nat) (hi : ops[i]? = some ⟨d, .call ⟨.builtin .copy, #[x, y], #[t, t']⟩, ty, ps, af, g⟩) (hc : chk ops e nn ⟨d, .call ⟨.builtin .copy, #[x, y], #[t, t']⟩, ty, ps, af, g⟩ dd true = true) (hT : rowOk P t el sz bytes = true) (hz : ∀ x, (enc x).length = sz) (h1 : ∀ x, (enc x).all Value.oneCell' = true)
    (hk : H[k]? = some (ownE el sz enc A n c l)) (hd : eev e x = .slice A1 n1 c1) (hA1 : 0 < n1 → A1 = some ⟨ab A, ao A + o * sz, none⟩) (hn1 : n1 = l.length - o) (ho : o ≤ l.length)
    (hs : eev e y = .slice A2 n2 c2) (hsw : SW A2 n2 c2 l2.length) (rd : RdE w sz enc A2 l2) (hw : Hs w0 H w)
    (next : ∀ w', Hs w0 (H.set k (ownE el sz enc A n c (copyAt l o l2 (min (l.length - o) l2.length)))) w' → S w' ∧ wh P nn ops E HQ S fuel (done listed i) ((dd, .int .i64 ((min (l.length - o) l2.length : Nat) : Int)) :: e) w') : ws P nn ops E HQ S fuel listed e w i := by
  obtain ⟨w', hrun, hw'⟩ := rn_copy (d := d) (ty := ty) (ps := ps) (af := af) (g := g) (t' := t') k o hT hz h1 hk hd hA1 hn1 ho hs hsw rd hw
  obtain ⟨q1, q2⟩ := next w' hw'
  exact ws_run dd hi hc hrun q1 q2
end
def isInt (P : Program) (t : TypeId) (k : IntKind) : Bool :=
  match P.underlying t with
  | some (.int k') => decide (k' = k)
  | _ => false
theorem op_conv {src dst : TypeId} {x : Operand} {k k' : IntKind} {a : Int} (hx : eev e x = .int k' a) (hs : isInt P src k' = true) (ht : isInt P dst k = true) (hw : k.wrap a = a) : OpV P e w ⟨d, .convert src dst x, ty, ps, af, g⟩ (.int k a) := by
  unfold isInt at hs ht
  split at hs
  · rename_i k1 hu1
    split at ht
    · rename_i k2 hu2
      obtain rfl := of_decide_eq_true ht
      simp [OpV, execOp, hx, convert, run_underlying hu1, run_underlying hu2, Conv.intToInt, hw]
    · cases ht
  · cases hs
theorem op_convU64 {src dst : TypeId} {x : Operand} {k' : IntKind} {a : Int} (hx : eev e x = .int k' a) (hs : isInt P src k' = true) (ht : isInt P dst .u64 = true) (h : 0 ≤ a ∧ a ≤ 18446744073709551615) : OpV P e w ⟨d, .convert src dst x, ty, ps, af, g⟩ (.int .u64 a) := op_conv hx hs ht (IntWalk.u64_in a h)
theorem op_convI64 {src dst : TypeId} {x : Operand} {k' : IntKind} {a : Int} (hx : eev e x = .int k' a) (hs : isInt P src k' = true) (ht : isInt P dst .i64 = true) (h : I64 a) : OpV P e w ⟨d, .convert src dst x, ty, ps, af, g⟩ (.int .i64 a) := op_conv hx hs ht (IntWalk.i64_in a h)
section
variable {t t' : TypeId} {x y : Operand} {a b : Int} {k : IntKind}
theorem op_lssK (hx : eev e x = .int k a) (hy : eev e y = .int k b) : OpV P e w ⟨d, .binOp .lss t x y t', ty, ps, af, g⟩ (.bool (decide (a < b))) := by simp [OpV, execOp, hx, hy, eqGuard, binOp, Op.intCmp]
theorem op_leqK (hx : eev e x = .int k a) (hy : eev e y = .int k b) : OpV P e w ⟨d, .binOp .leq t x y t', ty, ps, af, g⟩ (.bool (decide (a ≤ b))) := by simp [OpV, execOp, hx, hy, eqGuard, binOp, Op.intCmp]
theorem op_gtrK (hx : eev e x = .int k a) (hy : eev e y = .int k b) : OpV P e w ⟨d, .binOp .gtr t x y t', ty, ps, af, g⟩ (.bool (decide (b < a))) := by simp [OpV, execOp, hx, hy, eqGuard, binOp, Op.intCmp]
theorem op_geqK (hx : eev e x = .int k a) (hy : eev e y = .int k b) : OpV P e w ⟨d, .binOp .geq t x y t', ty, ps, af, g⟩ (.bool (decide (b ≤ a))) := by simp [OpV, execOp, hx, hy, eqGuard, binOp, Op.intCmp]
theorem op_rem (hx : eev e x = .int .i64 a) (hy : eev e y = .int .i64 b) (h : 0 < b) (_ : I64 a) : OpV P e w ⟨d, .binOp .rem t x y t', ty, ps, af, g⟩ (.int .i64 (Int.tmod a b)) := by
  have hb : ¬ b = 0 := by omega
  simp [OpV, execOp, hx, hy, eqGuard, binOp, Op.intDiv, hb]
theorem op_quo (hx : eev e x = .int .i64 a) (hy : eev e y = .int .i64 b) (h : 0 < b) (ha : I64 a) : OpV P e w ⟨d, .binOp .quo t x y t', ty, ps, af, g⟩ (.int .i64 (Int.tdiv a b)) := by
  have hb : ¬ b = 0 := by omega
  have hw : IntKind.i64.wrap (a.tdiv b) = a.tdiv b := IntWalk.i64_in _ (by
    obtain ⟨h1, h2⟩ := ha
    have h3 : (a.tdiv b).natAbs ≤ a.natAbs := by rw [Int.natAbs_tdiv]; exact Nat.div_le_self _ _
    rcases Int.le_total 0 a with h0 | h0
    · have := Int.tdiv_nonneg h0 (Int.le_of_lt h); omega
    · have : a.tdiv b ≤ 0 := by
        have h4 := Int.tdiv_nonneg (a := -a) (b := b) (by omega) (Int.le_of_lt h)
        rw [Int.neg_tdiv] at h4
        omega
      omega)
  simp [OpV, execOp, hx, hy, eqGuard, binOp, Op.intDiv, hb, hw]
theorem op_remK (hx : eev e x = .int .i64 a) (hy : eev e y = .int .i64 b) (h : decide (0 < b) = true) (ha : I64 a) : OpV P e w ⟨d, .binOp .rem t x y t', ty, ps, af, g⟩ (.int .i64 (Int.tmod a b)) := op_rem hx hy (of_decide_eq_true h) ha
theorem op_quoK (hx : eev e x = .int .i64 a) (hy : eev e y = .int .i64 b) (h : decide (0 < b) = true) (ha : I64 a) : OpV P e w ⟨d, .binOp .quo t x y t', ty, ps, af, g⟩ (.int .i64 (Int.tdiv a b)) := op_quo hx hy (of_decide_eq_true h) ha
theorem op_eqlB {a b : Bool} (hx : eev e x = .bool a) (hy : eev e y = .bool b) (ht : (P.underlying t matches some .bool) = true) : OpV P e w ⟨d, .binOp .eql t x y t', ty, ps, af, g⟩ (.bool (a == b)) := by
  cases hu : P.underlying t with
  | none => rw [hu] at ht; cases ht
  | some ud =>
    cases ud <;> (try (rw [hu] at ht; cases ht; done))
    have q3 : (Op.equalIn (9999 + 1) t (.bool a) (.bool b)).run P w = .ok (a == b) w := run_equalIn_bool' w 9999 t a b hu
    simp [OpV, execOp, hx, hy, eqGuard, binOp, Op.equal, Op.maxDepth, q3]
end
end
section
variable {P : Program} {e : Env} {w : World} {d : Option Tmp} {ty : TypeId} {ps : String} {af : Array Edge} {g : Option (Nat × Bool)}
def arrSz (P : Program) (t : TypeId) : Option (Nat × Nat) :=
  match P.underlying t with
  | some (.array len x) => (P.info? x).map fun i => (len, i.size)
  | _ => none
/-- An element of an array, by a literal index. -/
theorem op_indexArr {t : TypeId} {x ix : Operand} {b o len sz : Nat} (i : Nat) {j : Int} {k : Nat} (hx : eev e x = .pointer (some ⟨b, o, none⟩)) (hi : eev e ix = .int .i64 j) (hj : (i : Int) = j) (hs : arrSz P t = some (len, sz)) (hl : Nat.blt i len = true) (hk : o + i * sz = k) : OpV P e w ⟨d, .indexAddr t x ix, ty, ps, af, g⟩ (.pointer (some ⟨b, k, none⟩)) := by
  subst hj hk
  unfold arrSz at hs
  split at hs
  · rename_i l E hu
    cases hE : P.info? E with
    | none => rw [hE] at hs; cases hs
    | some inf =>
      rw [hE] at hs
      simp only [Option.map_some, Option.some.injEq, Prod.mk.injEq] at hs
      obtain ⟨rfl, rfl⟩ := hs
      have hl' : i < l := by simpa using hl
      simp only [OpV, execOp, Instr.indexAt, hx, hi]
      simp [asIntOf, run_underlying hu, sizeOf, typeInfo, hE, hl', Instr.sureAddr, add_lit]
  · cases hs
end
end Go.Proofs.YtpbgfdmkebnjgaaGreatDoor
