/- Deco, more operations: returns, ways of a region in the model, lengths, slices of slices, stores into rows, literals of rows, conversions. Over any program. -/
import Derived.Test.YtpbgfdmkebnjgaaGreatDoorDOps
namespace Go.Proofs.YtpbgfdmkebnjgaaGreatDoor
open Go.RowKit
set_option linter.unusedSectionVars false
variable [JF]

instance (n : Int) : Decidable (I64 n) := by unfold I64; infer_instance
def encI (x : Int) : List Value := [.int .i64 x]
theorem encI_len (x : Int) : (encI x).length = 1 := rfl
theorem encI_one (x : Int) : (encI x).all Value.oneCell' = true := rfl
def encK (k : IntKind) (x : Int) : List Value := [.int k x]
theorem encK_len (k : IntKind) (x : Int) : (encK k x).length = 1 := rfl
theorem encK_one (k : IntKind) (x : Int) : (encK k x).all Value.oneCell' = true := rfl
def encB (x : Bool) : List Value := [.bool x]
theorem encB_len (x : Bool) : (encB x).length = 1 := rfl
theorem encB_one (x : Bool) : (encB x).all Value.oneCell' = true := rfl
def encS (x : ByteArray) : List Value := [.string x]
theorem encS_len (x : ByteArray) : (encS x).length = 1 := rfl
theorem encS_one (x : ByteArray) : (encS x).all Value.oneCell' = true := rfl
theorem Hs.ocells {w0 w : World} {H : List HE} (hs : Hs w0 H w) {b : Nat} {t : TypeId} {cs ds : List Value} {o : Nat} (hb : Blk w0 b t cs) (hd : (cs.drop o).take ds.length = ds) : ∀ j v, ds[j]? = some v → w.cell? ⟨b, o + j, none⟩ = some v := fun j v hj => by
  refine (hs.oblk hb).at_ (o + j) ?_
  rw [← hd, List.getElem?_take] at hj
  split at hj
  · rwa [List.getElem?_drop] at hj
  · cases hj
section
variable {P : Program} {n : Nat} {w0 : World} {ρ : Type} {R : ρ → Ending → World → Prop} {r : ρ} {e : Env} {H : List HE} {fn : Func}
theorem xm_ret (hr : fn.results = #[]) (h : ∀ w, Hs w0 H w → R r (.returned (.tuple #[])) w) : Xm n w0 (fun r => bodyPost P fn (R r)) .ret (some r) e H := fun r' hr' w hw => by
  injection hr' with hr'; subst hr'
  exact wx_ret0 hr (h w hw)
theorem xm_retT {t : Nat} {v : Value} (hr : fn.results = #[.tmp t]) (hk : ehas e t = true) (hv : eget e t = v) (h : ∀ w, Hs w0 H w → R r (.returned v) w) : Xm n w0 (fun r => bodyPost P fn (R r)) .ret (some r) e H := fun r' hr' w hw => by
  injection hr' with hr'; subst hr'
  exact wx_ret1 hr hk hv (h w hw)
theorem xm_retTT {t u : Nat} {v v' : Value} (hr : fn.results = #[.tmp t, .tmp u]) (hk : ehas e t = true) (hv : eget e t = v) (hk' : ehas e u = true) (hv' : eget e u = v') (h : ∀ w, Hs w0 H w → R r (.returned (.tuple #[v, v'])) w) : Xm n w0 (fun r => bodyPost P fn (R r)) .ret (some r) e H := fun r' hr' w hw => by
  injection hr' with hr'; subst hr'
  exact wx_ret2 hr hk hv hk' hv' (h w hw)
theorem xm_retTTT {t u x : Nat} {v v' v'' : Value} (hr : fn.results = #[.tmp t, .tmp u, .tmp x]) (hk : ehas e t = true) (hv : eget e t = v) (hk' : ehas e u = true) (hv' : eget e u = v') (hk'' : ehas e x = true) (hv'' : eget e x = v'') (h : ∀ w, Hs w0 H w → R r (.returned (.tuple #[v, v', v''])) w) : Xm n w0 (fun r => bodyPost P fn (R r)) .ret (some r) e H := fun r' hr' w hw => by
  injection hr' with hr'; subst hr'
  exact wx_ret3 hr hk hv hk' hv' hk'' hv'' (h w hw)
theorem xm_retC {a t b : Nat} {cs : List Value} (hr : fn.results = #[.cell a t]) (hk : ehas e a = true) (hv : eget e a = .pointer (some ⟨b, 0, none⟩)) (hs : aggSz P t = some cs.length) (hc : ∀ w, Hs w0 H w → ∀ j v, cs[j]? = some v → w.cell? ⟨b, 0 + j, none⟩ = some v)
    (h : ∀ w, Hs w0 H w → R r (.returned (.agg cs.toArray)) w) : Xm n w0 (fun r => bodyPost P fn (R r)) .ret (some r) e H := fun r' hr' w hw => by
  injection hr' with hr'; subst hr'
  exact wx_retC1 cs hr hk hv hs (hc w hw) (h w hw)
theorem xm_retCT {a t u b : Nat} {v : Value} {cs : List Value} (hr : fn.results = #[.cell a t, .tmp u]) (hk : ehas e a = true) (hv : eget e a = .pointer (some ⟨b, 0, none⟩)) (hs : aggSz P t = some cs.length) (hc : ∀ w, Hs w0 H w → ∀ j v, cs[j]? = some v → w.cell? ⟨b, 0 + j, none⟩ = some v)
    (hk' : ehas e u = true) (hv' : eget e u = v) (h : ∀ w, Hs w0 H w → R r (.returned (.tuple #[.agg cs.toArray, v])) w) : Xm n w0 (fun r => bodyPost P fn (R r)) .ret (some r) e H := fun r' hr' w hw => by
  injection hr' with hr'; subst hr'
  exact wx_retCT cs hr hk hv hk' hv' hs (hc w hw) (h w hw)
end
section
variable {P : Program} {n : Nat} {w0 : World} {ρ : Type} {Q : ρ → Exit → Act → World → Prop} {m m1 m2 : Option ρ} {e : Env} {H H' : List HE} {ops : Array Oper} {o : Oper} {rest : List Oper} {α : Type}
theorem lm_decM (d : Nat) {φ : Prop} [Decidable φ] (hc : chk ops e n o d true = true) (hv : ∀ w, Hs w0 H w → OpV P e w o (.bool (decide φ))) (ht : φ → Lm P n w0 ops Q rest m1 ((d, .bool true) :: e) H) (hf : ¬ φ → Lm P n w0 ops Q rest m2 ((d, .bool false) :: e) H) : Lm P n w0 ops Q (o :: rest) (if φ then m1 else m2) e H := fun r hr w hw => by
  by_cases h : φ
  · rw [if_pos h] at hr; have := hv w hw; rw [decide_eq_true h] at this; exact wl_val d hc this (ht h r hr w hw)
  · rw [if_neg h] at hr; have := hv w hw; rw [decide_eq_false h] at this; exact wl_val d hc this (hf h r hr w hw)
theorem lm_boolM (d : Nat) {b : Bool} (hc : chk ops e n o d true = true) (hv : ∀ w, Hs w0 H w → OpV P e w o (.bool b)) (ht : b = true → Lm P n w0 ops Q rest m1 ((d, .bool true) :: e) H) (hf : b = false → Lm P n w0 ops Q rest m2 ((d, .bool false) :: e) H) : Lm P n w0 ops Q (o :: rest) (if b = true then m1 else m2) e H := fun r hr w hw => by
  cases b
  · exact wl_val d hc (hv w hw) (hf rfl r (by simpa using hr) w hw)
  · exact wl_val d hc (hv w hw) (ht rfl r (by simpa using hr) w hw)
/-- A call whose answer is a bool that parts the ways. -/
theorem lm_callb (d : Nat) {ξ : Type} {f : FuncId} {args : Array Value} {mf : Option Bool} {k1 k2 : Option ρ} {HR : Bool → ξ → List HE} (hc : chk ops e n o d true = true)
    (hv : ∀ w, (execOp (eev e) o).run P w = .ok (.enter f args) w) (hR : ∀ r, mf = some r → ∀ w, Hs w0 H w → Calls P f args w fun x w' => ∃ u, x = .returned (.bool r) ∧ Hs w (HR r u) w')
    (ht : ∀ u, Lm P n w0 ops Q rest k1 ((d, .bool true) :: e) (HR true u ++ H)) (hf : ∀ u, Lm P n w0 ops Q rest k2 ((d, .bool false) :: e) (HR false u ++ H)) : Lm P n w0 ops Q (o :: rest) (mf.bind fun b => if b = true then k1 else k2) e H :=
  lm_call (V := fun r _ => .bool r) d hc hv hR fun r u => by
    cases r
    · simpa using hf u
    · simpa using ht u
variable {dst : Option Tmp} {ty : TypeId} {ps : String} {af : Array Edge} {g : Option (Nat × Bool)}
theorem flat_set {sz : Nat} {enc : α → List Value} (hz : ∀ x, (enc x).length = sz) (x' : α) (vs : List Value) (j : Nat) : ∀ (l : List α) (i : Nat) (x : α), l[i]? = some x → (enc x).take j ++ vs ++ (enc x).drop (j + vs.length) = enc x' → j + vs.length ≤ sz → (l.flatMap enc).take (i * sz + j) ++ vs ++ (l.flatMap enc).drop (i * sz + j + vs.length) = (l.set i x').flatMap enc
  | [], _, _, h, _, _ => by simp at h
  | y :: l, 0, x, h, hx, hj => by
    simp at h; subst h
    have hy := hz y
    simp only [Nat.zero_mul, Nat.zero_add, List.flatMap_cons, List.set_cons_zero]
    rw [List.take_append_of_le_length (by omega), List.drop_append_of_le_length (by omega), ← List.append_assoc, hx]
  | y :: l, i + 1, x, h, hx, hj => by
    have ih := flat_set hz x' vs j l i x (by simpa using h) hx hj
    have hy := hz y
    simp only [List.flatMap_cons, List.set_cons_succ]
    rw [← ih]
    have e1 : (i + 1) * sz + j = (enc y).length + (i * sz + j) := by rw [hy, Nat.succ_mul]; omega
    rw [e1, List.take_append, List.take_of_length_le (by omega)]
    have e2 : (enc y).length + (i * sz + j) + vs.length = (enc y).length + (i * sz + j + vs.length) := by omega
    rw [e2, List.drop_append, List.drop_of_length_le (by omega)]
    have e3 : (enc y).length + (i * sz + j) - (enc y).length = i * sz + j := by omega
    have e4 : (enc y).length + (i * sz + j + vs.length) - (enc y).length = i * sz + j + vs.length := by omega
    rw [e3, e4]
    simp
/-- A store into an element of a row that is owned. -/
theorem lm_storeIx [Inhabited α] (k : Nat) {t : TypeId} {x y : Operand} {el sz : Nat} {enc : α → List Value} {A : Option Addr} {n1 c : Nat} {l : List α} {i : Int} (x' : α) (j : Nat) {p : Addr} (vs : List Value) (hc : chk0 ops e ⟨dst, .store t x y, ty, ps, af, g⟩ = true) (hx : eev e x = .pointer (some p)) (hp : p = ⟨ab A, ao A + i.toNat * sz + j, none⟩) (hs : sizeIs P t vs.length = true) (hy : (eev e y).cells = vs.toArray) (hv : vs.all Value.oneCell' = true)
    (hk : H[k]? = some (ownE el sz enc A n1 c l)) (hz : ∀ x, (enc x).length = sz) (_ : ∀ x, (enc x).all Value.oneCell' = true) (h0 : 0 ≤ i) (hl : i < l.length) (hj : Nat.ble (j + vs.length) sz = true) (hcs : (enc (ix l i)).take j ++ vs ++ (enc (ix l i)).drop (j + vs.length) = enc x')
    (next : Lm P n w0 ops Q rest m e (H.set k (ownE el sz enc A n1 c (l.set i.toNat x')))) : Lm P n w0 ops Q (⟨dst, .store t x y, ty, ps, af, g⟩ :: rest) m e H := fun r hr w hw => by
  obtain ⟨hn, hown⟩ := hw.get k hk
  subst hp
  have hj' : j + vs.length ≤ sz := Nat.le_of_ble_eq_true hj
  have hget := ix_get h0 hl
  have hil : i.toNat < l.length := by omega
  have hpos : i.toNat * sz + sz ≤ l.length * sz := by rw [← Nat.succ_mul]; exact Nat.mul_le_mul_right _ hil
  rcases hown.2 with ⟨_, h00⟩ | ⟨gg, cap, cur, hvv, _, hh, hnc, hm, hsz, htk⟩
  · omega
  · injection hvv with a1 a2 a3
    subst a1
    have hlen1 := hown.1
    unfold sizeIs at hs
    cases hi : P.info? t with
    | none => rw [hi] at hs; cases hs
    | some inf =>
      have hsz2 : inf.size = vs.length := by rw [hi] at hs; exact Nat.eq_of_beq_eq_true hs
      have hcap : l.length * sz ≤ cap * sz := Nat.mul_le_mul_right _ (by omega)
      have hst := run_storeCells_at (P := P) gg (i.toNat * sz + j) el vs 0 cur w hh (by omega) (fun u hu => List.all_eq_true.1 hv u hu)
      simp only [Nat.add_zero] at hst
      have hab : ab (some (⟨gg, 0, none⟩ : Addr)) = gg := rfl
      have hao : ao (some (⟨gg, 0, none⟩ : Addr)) = 0 := rfl
      rw [hab, hao, Nat.zero_add] at hx
      have hrun : (execOp (eev e) ⟨dst, .store t x y, ty, ps, af, g⟩).run P w = .ok .skip (w.setRow gg (cur.toList.take (i.toNat * sz + j) ++ vs ++ cur.toList.drop (i.toNat * sz + j + vs.length)).toArray) := by
        simp only [execOp, Instr.storeAt, hx]
        simp [Instr.sureAddr, storeVar, sizeOf, typeInfo, hi, hsz2, hy, hst]
      refine wl_do hc hrun (next r hr _ ?_)
      have hbl := below_setRow (Below.refl 0 w) (Nat.zero_le gg) (cur.toList.take (i.toNat * sz + j) ++ vs ++ cur.toList.drop (i.toNat * sz + j + vs.length)).toArray
      refine hw.set_ k hk hbl (Nat.le_refl _) (fun b _ hb' => ?_) ⟨by simpa using hn, ?_, .inr ⟨gg, cap, (cur.toList.take (i.toNat * sz + j) ++ vs ++ cur.toList.drop (i.toNat * sz + j + vs.length)).toArray, by rw [a3], Nat.zero_le _, setRow_heap w gg cur _ el _ hh, hnc, hm, ?_, ?_⟩⟩ (fun b hb' => ?_)
      · exact setRow_other w gg b _ (fun e1 => hb' (by rw [e1]; rfl))
      · rw [flat_len hz]; simp; rw [hn]
      · have hcl : cur.toList.length = cap * sz := by simpa using hsz
        simp only [List.size_toArray, List.length_append, List.length_take, List.length_drop, hcl]
        omega
      · have hfs := flat_set hz x' vs j l i.toNat (ix l i) hget hcs hj'
        rw [← hfs, ← htk]
        have hcl : cur.toList.length = cap * sz := by simpa using hsz
        have hN : n1 * sz = l.length * sz := by rw [hn]
        simp only [hN]
        rw [List.take_append, List.take_append, List.take_take, Nat.min_eq_right (by omega), List.take_take, Nat.min_eq_left (by omega)]
        simp only [List.length_take, List.length_append, hcl]
        rw [Nat.min_eq_left (by omega), List.take_of_length_le (l := vs) (by omega)]
        congr 1
        rw [List.drop_take]
      · have e1 : b = gg := by simpa [ownE, Value.ownBlock] using hb'.symm
        subst e1
        exact ⟨.inl rfl, by simpa [World.setRow] using (Array.getElem?_eq_some_iff.1 hh).1⟩
end
section
variable {P : Program} {e : Env} {w : World} {d : Option Tmp} {ty : TypeId} {ps : String} {af : Array Edge} {g : Option (Nat × Bool)} {α : Type}
theorem op_lenN {t : TypeId} {x : Operand} {A : Option Addr} {n c ll : Nat} (hx : eev e x = .slice A n c) (ht : isSliceT P t = true) (hn : n = ll) : OpV P e w ⟨d, .call ⟨.builtin .len, #[x], #[t]⟩, ty, ps, af, g⟩ (.int .i64 (ll : Int)) := by
  subst hn; exact op_len hx ht
theorem RdE.take {sz : Nat} {enc : α → List Value} {A : Option Addr} {l : List α} {i : Int} (h : RdE w sz enc A l) (_ : 0 ≤ i) (_ : i ≤ l.length) : RdE w sz enc A (l.take i.toNat) := by
  refine ⟨Nat.le_trans (by simp; omega) h.1, fun hp => ?_⟩
  obtain ⟨b, off, e1, hb, hc⟩ := h.2 (by simp at hp; omega)
  refine ⟨b, off, e1, hb, fun k x hx => hc k x ?_⟩
  rw [List.getElem?_take] at hx
  split at hx
  · exact hx
  · cases hx
theorem SW.take {A : Option Addr} {n c : Nat} {l : List α} {i : Int} (h : SW A n c l.length) (h0 : 0 ≤ i) (h1 : i ≤ l.length) : SW A i.toNat c (l.take i.toNat).length := by
  obtain ⟨a1, a2, a3⟩ := h
  exact ⟨a1, by omega, by simp; omega⟩
theorem op_sliceTo2 {t : TypeId} {x hi : Operand} {A : Option Addr} {n c : Nat} {l : List α} {i : Int} (hx : eev e x = .slice A n c) (hh : eev e hi = .int .i64 i) (ht : isSliceT P t = true) (hs : (elemSz P t).isSome = true) (hw : SW A n c l.length) (h0 : 0 ≤ i) (h1 : i ≤ l.length) :
    OpV P e w ⟨d, .slice t x none (some hi) none, ty, ps, af, g⟩ (.slice A i.toNat c) := by
  obtain ⟨sz, hs⟩ := Option.isSome_iff_exists.1 hs
  obtain ⟨k, rfl⟩ := Int.eq_ofNat_of_zero_le h0
  obtain ⟨a1, a2, a3⟩ := hw
  exact op_sliceTo hx hh ht hs (by omega)
theorem op_min {t t' : TypeId} {x y : Operand} {a b : Int} (hx : eev e x = .int .i64 a) (hy : eev e y = .int .i64 b) : OpV P e w ⟨d, .call ⟨.builtin .min, #[x, y], #[t, t']⟩, ty, ps, af, g⟩ (.int .i64 (min a b)) := by
  have : (if b < a then b else a) = min a b := by split <;> omega
  simp [OpV, execOp, resolve, invoke, builtin, Builtin.min_, Builtin.min2, hx, hy, this]
theorem op_max {t t' : TypeId} {x y : Operand} {a b : Int} (hx : eev e x = .int .i64 a) (hy : eev e y = .int .i64 b) : OpV P e w ⟨d, .call ⟨.builtin .max, #[x, y], #[t, t']⟩, ty, ps, af, g⟩ (.int .i64 (max a b)) := by
  have : (if a < b then b else a) = max a b := by split <;> omega
  simp [OpV, execOp, resolve, invoke, builtin, Builtin.max_, Builtin.max2, hx, hy, this]
end
end Go.Proofs.YtpbgfdmkebnjgaaGreatDoor
