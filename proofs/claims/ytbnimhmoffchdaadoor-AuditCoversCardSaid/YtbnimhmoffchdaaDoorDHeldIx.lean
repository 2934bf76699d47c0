/- Deco: stores into elements of owned rows, in regions that draw their order. -/
import Derived.Test.YtbnimhmoffchdaaDoorDNest
import Derived.Lib.SliceRun
namespace Go.Proofs.YtbnimhmoffchdaaDoor
open Go.RowKit
set_option linter.unusedSectionVars false
variable [JF]

section
variable {σ : Type} {P : Program} {n : Nat} {ops : Array Oper} {E : σ → Env} {HQ : σ → World → Prop} {S : World → Prop} {fuel : Nat} {listed : Array Bool} {e : Env} {w w0 : World} {o : Oper} {H : List HE} {dst : Option Tmp} {ty : TypeId} {ps : String} {af : Array Edge} {g : Option (Nat × Bool)} {α : Type}
/-- A store into an element of a row that is owned: what it does. -/
theorem store_ix [Inhabited α] (k : Nat) {t : TypeId} {x y : Operand} {el sz : Nat} {enc : α → List Value} {A : Option Addr} {n1 c : Nat} {l : List α} {i : Int} (x' : α) (j : Nat) {p : Addr} (vs : List Value) (hx : eev e x = .pointer (some p)) (hp : p = ⟨ab A, ao A + i.toNat * sz + j, none⟩) (hs : sizeIs P t vs.length = true) (hy : (eev e y).cells = vs.toArray) (hv : vs.all Value.oneCell' = true)
    (hk : H[k]? = some (ownE el sz enc A n1 c l)) (hz : ∀ x, (enc x).length = sz) (_ : ∀ x, (enc x).all Value.oneCell' = true) (h0 : 0 ≤ i) (hl : i < l.length) (hj : Nat.ble (j + vs.length) sz = true) (hcs : (enc (ix l i)).take j ++ vs ++ (enc (ix l i)).drop (j + vs.length) = enc x')
    (hw : Hs w0 H w) : ∃ w', (execOp (eev e) ⟨dst, .store t x y, ty, ps, af, g⟩).run P w = .ok .skip w' ∧ Hs w0 (H.set k (ownE el sz enc A n1 c (l.set i.toNat x'))) w' := by
  obtain ⟨hn, hown⟩ := hw.get k hk
  subst hp
  have hj' : j + vs.length ≤ sz := Nat.le_of_ble_eq_true hj
  have hget := ix_get h0 hl
  have hil : i.toNat < l.length := by omega
  have hpos : i.toNat * sz + sz ≤ l.length * sz := by rw [← Nat.succ_mul]; exact Nat.mul_le_mul_right _ hil
  rcases hown.2 with ⟨_, h00⟩ | ⟨gg, cap, cur, hvv, _, hh, hnc, hm, hsz, htk⟩
  · omega
  · injection hvv with a1 a2 a3
    subst a1
    have hlen1 := hown.1
    unfold sizeIs at hs
    cases hi : P.info? t with
    | none => rw [hi] at hs; cases hs
    | some inf =>
      have hsz2 : inf.size = vs.length := by rw [hi] at hs; exact Nat.eq_of_beq_eq_true hs
      have hcap : l.length * sz ≤ cap * sz := Nat.mul_le_mul_right _ (by omega)
      have hst := run_storeCells_at (P := P) gg (i.toNat * sz + j) el vs 0 cur w hh (by omega) (fun u hu => List.all_eq_true.1 hv u hu)
      simp only [Nat.add_zero] at hst
      have hab : ab (some (⟨gg, 0, none⟩ : Addr)) = gg := rfl
      have hao : ao (some (⟨gg, 0, none⟩ : Addr)) = 0 := rfl
      rw [hab, hao, Nat.zero_add] at hx
      have hrun : (execOp (eev e) ⟨dst, .store t x y, ty, ps, af, g⟩).run P w = .ok .skip (w.setRow gg (cur.toList.take (i.toNat * sz + j) ++ vs ++ cur.toList.drop (i.toNat * sz + j + vs.length)).toArray) := by
        simp only [execOp, Instr.storeAt, hx]
        simp [Instr.sureAddr, storeVar, sizeOf, typeInfo, hi, hsz2, hy, hst]
      refine ⟨_, hrun, ?_⟩
      have hbl := below_setRow (Below.refl 0 w) (Nat.zero_le gg) (cur.toList.take (i.toNat * sz + j) ++ vs ++ cur.toList.drop (i.toNat * sz + j + vs.length)).toArray
      refine hw.set_ k hk hbl (Nat.le_refl _) (fun b _ hb' => ?_) ⟨by simpa using hn, ?_, .inr ⟨gg, cap, (cur.toList.take (i.toNat * sz + j) ++ vs ++ cur.toList.drop (i.toNat * sz + j + vs.length)).toArray, by rw [a3], Nat.zero_le _, setRow_heap w gg cur _ el _ hh, hnc, hm, ?_, ?_⟩⟩ (fun b hb' => ?_)
      · exact setRow_other w gg b _ (fun e1 => hb' (by rw [e1]; rfl))
      · rw [flat_len hz]; simp; rw [hn]
      · have hcl : cur.toList.length = cap * sz := by simpa using hsz
        simp only [List.size_toArray, List.length_append, List.length_take, List.length_drop, hcl]
        omega
      · have hfs := flat_set hz x' vs j l i.toNat (ix l i) hget hcs hj'
        rw [← hfs, ← htk]
        have hcl : cur.toList.length = cap * sz := by simpa using hsz
        have hN : n1 * sz = l.length * sz := by rw [hn]
        simp only [hN]
        rw [List.take_append, List.take_append, List.take_take, Nat.min_eq_right (by omega), List.take_take, Nat.min_eq_left (by omega)]
        simp only [List.length_take, List.length_append, hcl]
        rw [Nat.min_eq_left (by omega), List.take_of_length_le (l := vs) (by omega)]
        congr 1
        rw [List.drop_take]
      · have e1 : b = gg := by simpa [ownE, Value.ownBlock] using hb'.symm
        subst e1
        exact ⟨.inl rfl, by simpa [World.setRow] using (Array.getElem?_eq_some_iff.1 hh).1⟩
theorem ws_storeIx [Inhabited α] {q : Nat} (k : Nat) {t : TypeId} {x y : Operand} {el sz : Nat} {enc : α → List Value} {A : Option Addr} {n1 c : Nat} {l : List α} {i : Int} (x' : α) (j : Nat) {p : Addr} (vs : List Value) (hi : ops[q]? = some ⟨dst, .store t x y, ty, ps, af, g⟩) (hc : chk0 ops e ⟨dst, .store t x y, ty, ps, af, g⟩ = true) (hx : eev e x = .pointer (some p)) (hp : p = ⟨ab A, ao A + i.toNat * sz + j, none⟩) (hs : sizeIs P t vs.length = true) (hy : (eev e y).cells = vs.toArray) (hv : vs.all Value.oneCell' = true)
    (hk : H[k]? = some (ownE el sz enc A n1 c l)) (hz : ∀ x, (enc x).length = sz) (ho : ∀ x, (enc x).all Value.oneCell' = true) (h0 : 0 ≤ i) (hl : i < l.length) (hj : Nat.ble (j + vs.length) sz = true) (hcs : (enc (ix l i)).take j ++ vs ++ (enc (ix l i)).drop (j + vs.length) = enc x') (hw : Hs w0 H w)
    (next : ∀ w', Hs w0 (H.set k (ownE el sz enc A n1 c (l.set i.toNat x'))) w' → S w' ∧ wh P n ops E HQ S fuel (done listed q) e w') : ws P n ops E HQ S fuel listed e w q := by
  obtain ⟨w', hr, hw'⟩ := store_ix (P := P) (e := e) (dst := dst) (ty := ty) (ps := ps) (af := af) (g := g) k x' j vs hx hp hs hy hv hk hz ho h0 hl hj hcs hw
  obtain ⟨h1', h2'⟩ := next w' hw'
  exact ws_do hi hc hr h1' h2'
end
/-- Is a slice nil? -/
theorem op_eqNil {P : Program} {e : Env} {w : World} {d : Option Tmp} {ty : TypeId} {ps : String} {af : Array Edge} {g : Option (Nat × Bool)} {t t' : TypeId} {x y : Operand} {A : Option Addr} {n c : Nat} (hx : eev e x = .slice A n c) (hy : eev e y = .slice none 0 0) (ht : isSliceT P t = true) : OpV P e w ⟨d, .binOp .eql t x y t', ty, ps, af, g⟩ (.bool (decide (A = none))) := by
  unfold isSliceT at ht
  split at ht
  · rename_i E hu
    have hq := Go.Lib.run_eql_slice_nil (P := P) w t E A n c 0 0 hu
    simp only [OpV, execOp, hx, hy]
    cases A with
    | none => simp [eqGuard, hq]
    | some a => simp [eqGuard, hq]
  · cases ht
/-- A body that ends without a return. -/
theorem xm_normR {P : Program} {fn : Func} {n : Nat} {w0 : World} {ρ : Type} {R : ρ → Ending → World → Prop} {m : Option ρ} {e : Env} {H : List HE} (h : Xm n w0 (fun r => bodyPost P fn (R r)) .ret m e H) : Xm n w0 (fun r => bodyPost P fn (R r)) .normal m e H := fun r hr w hw a hf => h r hr w hw a hf
end Go.Proofs.YtbnimhmoffchdaaDoor
