/- More laws of operations: results that lie in memory, equality of structs, slices of slices, a store into a block that is known. -/
import Derived.Test.YtpbgfdmkebnjgaaGreatDoorOpsB
import Derived.Laws.StructEq
namespace Go.Proofs.YtpbgfdmkebnjgaaGreatDoor
open Go.RowKit

/-- A result that lies in memory. -/
theorem run_resultVar {P : Program} {w : World} {t : TypeId} {p : Addr} {cs : List Value} (hs : aggSz P t = some cs.length) (hc : ∀ j v, cs[j]? = some v → w.cell? (p.add j) = some v) : (loadVar t p).run P w = .ok (.agg cs.toArray) w := by
  have h2 : (isAgg t).run P w = .ok true w ∧ (P.info? t).map (·.size) = some cs.length := by
    unfold aggSz at hs
    split at hs
    · rename_i fs hu
      exact ⟨by unfold isAgg; simp [run_underlying hu], hs⟩
    · rename_i a b hu
      exact ⟨by unfold isAgg; simp [run_underlying hu], hs⟩
    · cases hs
  cases hi : P.info? t with
  | none => rw [hi] at h2; cases h2.2
  | some i =>
    have hi2 : i.size = cs.length := by have := h2.2; rw [hi] at this; simpa using this
    simp [loadVar, h2.1, sizeOf, typeInfo, hi, hi2, run_loadCells_list w p cs hc]
section
variable {P : Program} {n : Nat} {e : Env} {w : World} {fn : Func} {R : Ending → World → Prop}
theorem wx_retC1 {a t : Nat} {b o : Nat} (cs : List Value) (hr : fn.results = #[.cell a t]) (hk : ehas e a = true) (hv : eget e a = .pointer (some ⟨b, o, none⟩)) (hs : aggSz P t = some cs.length) (hc : ∀ j v, cs[j]? = some v → w.cell? ⟨b, o + j, none⟩ = some v)
    (h : R (.returned (.agg cs.toArray)) w) : wx n (bodyPost P fn R) .ret e w := fun x hf => by
  have hl := run_resultVar (P := P) (w := w) (t := t) (p := ⟨b, o, none⟩) (cs := cs) hs fun j v hj => by
    have : (⟨b, o, none⟩ : Addr).add j = ⟨b, o + j, none⟩ := by unfold Addr.add; split <;> simp_all
    rw [this]; exact hc j v hj
  refine bodyPost_ret (v := .agg cs.toArray) ?_ hf.defers h
  have h1 := hf.at_ a hk
  rw [hv, Array.getD_eq_getD_getElem?] at h1
  simp [results, hr, h1, asAddr, hl]
theorem wx_retCT {a t u : Nat} {b o : Nat} {v : Value} (cs : List Value) (hr : fn.results = #[.cell a t, .tmp u]) (hk : ehas e a = true) (hv : eget e a = .pointer (some ⟨b, o, none⟩)) (hk' : ehas e u = true) (hv' : eget e u = v) (hs : aggSz P t = some cs.length) (hc : ∀ j v, cs[j]? = some v → w.cell? ⟨b, o + j, none⟩ = some v)
    (h : R (.returned (.tuple #[.agg cs.toArray, v])) w) : wx n (bodyPost P fn R) .ret e w := fun x hf => by
  have hl := run_resultVar (P := P) (w := w) (t := t) (p := ⟨b, o, none⟩) (cs := cs) hs fun j v hj => by
    have : (⟨b, o, none⟩ : Addr).add j = ⟨b, o + j, none⟩ := by unfold Addr.add; split <;> simp_all
    rw [this]; exact hc j v hj
  refine bodyPost_ret (v := .tuple #[.agg cs.toArray, v]) ?_ hf.defers h
  have h1 := hf.at_ a hk
  have h2 := hf.at_ u hk'
  rw [hv, Array.getD_eq_getD_getElem?] at h1
  rw [hv', Array.getD_eq_getD_getElem?] at h2
  simp [results, hr, h1, h2, asAddr, hl]
theorem wx_ret0 (hr : fn.results = #[]) (h : R (.returned (.tuple #[])) w) : wx n (bodyPost P fn R) .ret e w := fun _ hf =>
  bodyPost_ret (v := .tuple #[]) (results_none hr _ _ _) hf.defers h
theorem wx_ret3 {t u x : Nat} {v v' v'' : Value} (hr : fn.results = #[.tmp t, .tmp u, .tmp x]) (hk : ehas e t = true) (hv : eget e t = v) (hk' : ehas e u = true) (hv' : eget e u = v') (hk'' : ehas e x = true) (hv'' : eget e x = v'') (h : R (.returned (.tuple #[v, v', v''])) w) : wx n (bodyPost P fn R) .ret e w := fun a hf => by
  refine bodyPost_ret (v := .tuple #[v, v', v'']) ?_ hf.defers h
  have h1 := hf.at_ t hk
  have h2 := hf.at_ u hk'
  have h3 := hf.at_ x hk''
  rw [Array.getD_eq_getD_getElem?] at h1 h2 h3
  simp [results, hr, h1, h2, h3, hv, hv', hv'']
end
/-- Equality of cells that are ints or bools. -/
def celEq : Value → Value → Bool
  | .int _ a, .int _ b => decide (a = b)
  | .bool a, .bool b => a == b
  | _, _ => false
def celsEq : List Value → List Value → Bool
  | [], [] => true
  | a :: l, b :: m => celEq a b && celsEq l m
  | _, _ => false
/-- A struct of ints and bools, a cell each, none of them blank. -/
def flatL (P : Program) : Nat → List Field → List Value → List Value → Bool
  | _, [], [], [] => true
  | k, f :: fs, .int i _ :: l, .int j _ :: m => !(f.name == "_") && (Nat.beq f.offset k && ((match P.underlying f.type with | some (.int _) => true | _ => false) && (decide (i = j) && flatL P (k + 1) fs l m)))
  | k, f :: fs, .bool _ :: l, .bool _ :: m => !(f.name == "_") && (Nat.beq f.offset k && ((match P.underlying f.type with | some .bool => true | _ => false) && flatL P (k + 1) fs l m))
  | _, _, _, _ => false
theorem run_eqFields_flat {P : Program} {w : World} (d : Nat) : ∀ (fs : List Field) (l m pl pm : List Value), flatL P pl.length fs l m = true → pl.length = pm.length → (Op.eqFields (d + 1) (pl ++ l).toArray (pm ++ m).toArray fs).run P w = .ok (celsEq l m) w
  | [], [], [], _, _, _, _ => by simp [Op.eqFields, celsEq]
  | f :: fs, .int i a :: l, .int j b :: m, pl, pm, h, hp => by
    simp only [flatL, Bool.and_eq_true, Bool.not_eq_true', decide_eq_true_eq] at h
    obtain ⟨h1, h2, h3, rfl, h5⟩ := h
    have h2' := Nat.eq_of_beq_eq_true h2
    have hn : ¬ f.name = "_" := by simpa using h1
    cases hu : P.underlying f.type with
    | none => rw [hu] at h3; cases h3
    | some ud =>
      cases ud <;> (try (rw [hu] at h3; cases h3; done))
      have ih := run_eqFields_flat (w := w) d fs l m (pl ++ [.int i a]) (pm ++ [.int i b]) (by simpa using h5) (by simp [hp])
      have q1 : (part f.type (pl ++ .int i a :: l).toArray f.offset).run P w = .ok (.int i a) w := by simp [part, isAgg, run_underlying hu, h2']
      have q2 : (part f.type (pm ++ .int i b :: m).toArray f.offset).run P w = .ok (.int i b) w := by simp [part, isAgg, run_underlying hu, h2', hp]
      have q3 : (Op.equalIn (d + 1) f.type (.int i a) (.int i b)).run P w = .ok (a == b) w := by simp [Op.equalIn, run_underlying hu]
      simp only [Op.eqFields, hn, ne_eq, not_false_eq_true, if_true, Sem.run_bind, q1, q2, q3, Result.andThen]
      by_cases hab : a = b
      · subst hab
        simp only [List.append_assoc, List.cons_append, List.nil_append] at ih
        simp [ih, celsEq, celEq]
      · have : (a == b) = false := by simpa using hab
        simp [this, celsEq, celEq, hab]
  | f :: fs, .bool a :: l, .bool b :: m, pl, pm, h, hp => by
    simp only [flatL, Bool.and_eq_true, Bool.not_eq_true'] at h
    obtain ⟨h1, h2, h3, h5⟩ := h
    have h2' := Nat.eq_of_beq_eq_true h2
    have hn : ¬ f.name = "_" := by simpa using h1
    cases hu : P.underlying f.type with
    | none => rw [hu] at h3; cases h3
    | some ud =>
      cases ud <;> (try (rw [hu] at h3; cases h3; done))
      have ih := run_eqFields_flat (w := w) d fs l m (pl ++ [.bool a]) (pm ++ [.bool b]) (by simpa using h5) (by simp [hp])
      have q1 : (part f.type (pl ++ .bool a :: l).toArray f.offset).run P w = .ok (.bool a) w := by simp [part, isAgg, run_underlying hu, h2']
      have q2 : (part f.type (pm ++ .bool b :: m).toArray f.offset).run P w = .ok (.bool b) w := by simp [part, isAgg, run_underlying hu, h2', hp]
      have q3 : (Op.equalIn (d + 1) f.type (.bool a) (.bool b)).run P w = .ok (a == b) w := run_equalIn_bool' w d f.type a b hu
      simp only [Op.eqFields, hn, ne_eq, not_false_eq_true, if_true, Sem.run_bind, q1, q2, q3, Result.andThen]
      simp only [List.append_assoc, List.cons_append, List.nil_append] at ih
      cases a <;> cases b <;> simp [ih, celsEq, celEq]
  | [], _ :: _, _, _, _, h, _ => by simp [flatL] at h
  | [], [], _ :: _, _, _, h, _ => by simp [flatL] at h
  | _ :: _, [], _, _, _, h, _ => by simp [flatL] at h
/-- '==' on structs of ints and bools. -/
theorem op_eqFlat {P : Program} {e : Env} {w : World} {d : Option Tmp} {ty : TypeId} {ps : String} {af : Array Edge} {g : Option (Nat × Bool)} {t t' : TypeId} {x y : Operand} {cs ds : List Value} {fs : Array Field} {b : Bool} (hx : eev e x = .agg cs.toArray) (hy : eev e y = .agg ds.toArray)
    (hu : P.underlying t = some (.struct fs)) (hst : P.stoodInHeld t = false) (hgt : P.eqGuardType P.depth t = false) (hf : flatL P 0 (P.fieldsOf t).toList cs ds = true) (hb : celsEq cs ds = b) : OpV P e w ⟨d, .binOp .eql t x y t', ty, ps, af, g⟩ (.bool b) := by
  have hfs : P.fieldsOf t = fs := by unfold Program.fieldsOf; rw [hu]
  have h1 : (Op.equal t (.agg cs.toArray) (.agg ds.toArray)).run P w = .ok b w := by
    unfold Op.equal Op.maxDepth
    rw [run_equalIn_struct w 9999 t _ _ (by rw [hfs]; exact hu) hst]
    have := run_eqFields_flat (P := P) (w := w) 9998 (P.fieldsOf t).toList cs ds [] [] hf rfl
    simp only [List.nil_append] at this
    rw [this, hb]
  simp only [OpV, execOp, hx, hy]
  simp [eqGuard, hgt, binOp, h1]
/-- A whole block is stored over. -/
theorem op_storeA {P : Program} {e : Env} {w : World} {d : Option Tmp} {ty : TypeId} {ps : String} {af : Array Edge} {g : Option (Nat × Bool)} {t : TypeId} {x y : Operand} {b : Nat} {z : List Value} {t0 : TypeId} (hb : Blk w b t0 z) (cs : List Value) (hp : eev e x = .pointer (some ⟨b, 0, none⟩)) (hl : z.length = cs.length) (hs : sizeIs P t cs.length = true) (hx : (eev e y).cells = cs.toArray) (h1 : cs.all Value.oneCell' = true) :
    (execOp (eev e) ⟨d, .store t x y, ty, ps, af, g⟩).run P w = .ok .skip (w.setRow b cs.toArray) := by
  unfold sizeIs at hs
  cases hi : P.info? t with
  | none => rw [hi] at hs; cases hs
  | some i =>
    have hsz : i.size = cs.length := by rw [hi] at hs; exact Nat.eq_of_beq_eq_true hs
    have hst := run_storeCells_at (P := P) b 0 t0 cs 0 z.toArray w hb (by simp; omega) (fun u hu => List.all_eq_true.1 h1 u hu)
    have e1 : (z.toArray.toList.take (0 + 0) ++ cs ++ z.toArray.toList.drop (0 + 0 + cs.length)).toArray = cs.toArray := by simp; omega
    rw [e1] at hst
    simp only [execOp, Instr.storeAt, hp]
    simp [Instr.sureAddr, storeVar, sizeOf, typeInfo, hi, hsz, hx, hst]
theorem blk_setRow {w : World} {b : Nat} {t : TypeId} {z : List Value} (hb : Blk w b t z) (cs : List Value) (_ : z.length = cs.length) : Blk (w.setRow b cs.toArray) b t cs := by
  unfold Blk at hb ⊢
  simp [World.setRow, hb, Array.getElem?_modify]
theorem below_setRow {B b : Nat} {a w : World} (h : Below B a w) (hb : B ≤ b) (cs : Array Value) : Below B a (w.setRow b cs) := by
  obtain ⟨h1, h2, h3, h4, h5⟩ := h
  refine ⟨h1, h2, h3, by simpa [World.setRow] using h4, fun k hk => ?_⟩
  rw [← h5 k hk]
  have hne : b ≠ k := by omega
  simp [World.setRow, Array.getElem?_modify, hne]
/-- As wl_append, and: a slice that is not nil stays so. -/
theorem wl_append2 {P : Program} {e : Env} {w : World} {d : Option Tmp} {ty : TypeId} {ps : String} {af : Array Edge} {g : Option (Nat × Bool)} {n : Nat} {Q : Exit → Act → World → Prop} {ops : Array Oper} {rest : List Oper} (dd : Nat) {s x : Operand} {t el size bytes : Nat} {base : Nat} {v : Value} {k : Nat} {xs : List Value} {ad : Addr} {m c : Nat} {news : List Value}
    (hc : chk ops e n ⟨d, .call ⟨.builtin .append, #[s, x], #[t, t]⟩, ty, ps, af, g⟩ dd true = true) (hT : rowOk P t el size bytes = true) (hs : eev e s = v) (hown : w.ownsRow base el size v k xs) (hx : eev e x = .slice (some ad) m c) (hl : news.length = m * size)
    (hnews : ∀ j u, news[j]? = some u → w.cell? (ad.add j) = some u) (h1 : ∀ u ∈ news, u.oneCell' = true) (h63 : k + m ≤ maxLen) (hbytes : (k + m) * bytes ≤ 140737488355328) (hbase : base ≤ w.heap.size)
    (next : ∀ v' w', w'.ownsRow base el size v' (k + m) (xs ++ news) → w.grownBy w' v.ownBlock → (v' = .slice none 0 0 ↔ v = .slice none 0 0 ∧ m = 0) → wl P n ops Q rest ((dd, v') :: e) w') : wl P n ops Q (⟨d, .call ⟨.builtin .append, #[s, x], #[t, t]⟩, ty, ps, af, g⟩ :: rest) e w := fun a hf => by
  obtain ⟨hd, hn, hs1, hg, hk⟩ := chk_spec hc
  obtain ⟨hu, i, z, hi, hz, q1, q2, q3, q4⟩ := rowOk_spec hT
  have hk' := eall_mem (hk rfl)
  refine wpList_step fun K hK => ?_
  rw [if_pos (gOk_wanted hf hg)]
  refine wp_append_own w s x t rfl base el i z size bytes hu hi hz q1 q2 q3 q4 v k xs ((hf.eval s (hk' s (by simp [Op.operands, Call.operands]))).trans hs) hown ad m c news ((hf.eval x (hk' x (by simp [Op.operands, Call.operands]))).trans hx) hl hnews h1 h63 hbytes hbase fun v' w' h2 h3 h4 => ?_
  simp only at hd
  subst hd
  exact hK _ _ (next v' w' h2 h3 h4 _ (hf.put hn v'))
/-- 'x[:k]' of a slice. -/
theorem op_sliceTo {P : Program} {e : Env} {w : World} {d : Option Tmp} {ty : TypeId} {ps : String} {af : Array Edge} {g : Option (Nat × Bool)} {t : TypeId} {x hi : Operand} {A : Option Addr} {l c k : Nat} (hx : eev e x = .slice A l c) (hh : eev e hi = .int .i64 (k : Int)) {sz : Nat} (ht : isSliceT P t = true) (hs : elemSz P t = some sz) (hk : k ≤ c) :
    OpV P e w ⟨d, .slice t x none (some hi) none, ty, ps, af, g⟩ (.slice A k c) := by
  unfold isSliceT at ht
  split at ht
  · rename_i E hu
    simp only [OpV, execOp, Instr.sliceAt, hx, Option.map_some, Option.map_none, hh]
    cases hE : P.info? E with
    | none => exact absurd hs (by rw [elemSz, hu]; simp [hE])
    | some inf =>
      have hadd : (if c = 0 then A else A.map (·.add (0 * inf.size))) = A := by
        split
        · rfl
        · cases A <;> simp [Addr.add]
      simp only [Nat.zero_mul] at hadd
      simp [run_underlying hu, Instr.slice, Instr.sliceBounds, Instr.sliceBound, asIntOf, hk, sizeOf, typeInfo, hE, hadd]
  · cases ht
end Go.Proofs.YtpbgfdmkebnjgaaGreatDoor
