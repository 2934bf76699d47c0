/- The laws of the operations that build values, make blocks, append and store; over any program. -/
import Derived.Test.YtpbgfdmkebnjgaaGreatDoorOps
namespace Go.Proofs.YtpbgfdmkebnjgaaGreatDoor
open Go.RowKit

/-- vs laid over cs from place k on. -/
def putL : List Value → Nat → List Value → List Value
  | cs, _, [] => cs
  | cs, k, v :: vs => putL (cs.set k v) (k + 1) vs
def fillL : List Value → List (Nat × List Value) → List Value
  | z, [] => z
  | z, (k, vs) :: l => fillL (putL z k vs) l
theorem putL_len : ∀ (vs cs : List Value) (k : Nat), (putL cs k vs).length = cs.length
  | [], _, _ => rfl
  | v :: vs, cs, k => by unfold putL; rw [putL_len vs]; simp
theorem fold_putL : ∀ (vs cs : List Value) (k j : Nat), (vs.zipIdx j).foldl (fun (cs : Array Value) (p : Value × Nat) => cs.setIfInBounds (k + p.2) p.1) cs.toArray = (putL cs (k + j) vs).toArray
  | [], cs, k, j => by simp [putL]
  | v :: vs, cs, k, j => by
    rw [List.zipIdx_cons, List.foldl_cons]
    simp only [List.setIfInBounds_toArray]
    rw [fold_putL vs (cs.set (k + j) v) k (j + 1)]
    rfl
/-- The parts: place and cells, of the right sizes, inside. -/
def fillOk (tab : List (Nat × Nat)) (n : Nat) : List (Nat × Value) → List (Nat × List Value) → Prop
  | [], [] => True
  | (i, v) :: ps, (k, vs) :: qs => tab[i]? = some (k, vs.length) ∧ v.cells = vs.toArray ∧ k + vs.length ≤ n ∧ fillOk tab n ps qs
  | _, _ => False
theorem fillOk_nil {tab : List (Nat × Nat)} {n : Nat} : fillOk tab n [] [] := trivial
theorem fillOk_cons {tab : List (Nat × Nat)} {n i k : Nat} {v : Value} {vs : List Value} {ps : List (Nat × Value)} {qs : List (Nat × List Value)} (h1 : tab[i]? = some (k, vs.length)) (h2 : v.cells = vs.toArray) (h3 : Nat.ble (k + vs.length) n = true) (h : fillOk tab n ps qs) : fillOk tab n ((i, v) :: ps) ((k, vs) :: qs) := ⟨h1, h2, Nat.le_of_ble_eq_true h3, h⟩
theorem fill_fillL (place : Nat → Option (Nat × Nat)) (tab : List (Nat × Nat)) (hp : ∀ i p, tab[i]? = some p → place i = some p) : ∀ (ps : List (Nat × Value)) (qs : List (Nat × List Value)) (z : List Value), fillOk tab z.length ps qs → Instr.fill place z.toArray ps = some (fillL z qs).toArray
  | [], [], z, _ => by simp [Instr.fill, fillL]
  | (i, v) :: ps, (k, vs) :: qs, z, h => by
    unfold fillOk at h
    obtain ⟨h1, h2, h3, h4⟩ := h
    unfold Instr.fill fillL
    rw [hp i _ h1]
    simp only [h2]
    rw [if_neg (by simp; omega)]
    have : vs.toArray.zipIdx.foldl (fun (cs : Array Value) (p : Value × Nat) => cs.setIfInBounds (k + p.2) p.1) z.toArray = (putL z k vs).toArray := by
      have := fold_putL vs z k 0
      rw [Nat.add_zero] at this
      rw [← this]
      simp
    rw [this]
    exact fill_fillL place tab hp ps qs (putL z k vs) (by rw [putL_len]; exact h4)
  | [], _ :: _, _, h => by cases h
  | _ :: _, [], _, h => by cases h
def zeroOf (P : Program) (t : TypeId) : Option Value := (P.info? t).bind (·.zero)
def fieldTabL (P : Program) : List Field → Option (List (Nat × Nat))
  | [] => some []
  | f :: fs => match P.info? f.type, fieldTabL P fs with
    | some i, some l => some ((f.offset, i.size) :: l)
    | _, _ => none
def fieldTab (P : Program) (t : TypeId) : Option (List (Nat × Nat)) :=
  match P.underlying t with
  | some (.struct fs) => fieldTabL P fs.toList
  | _ => none
theorem run_places {P : Program} {w : World} : ∀ (fs : List Field) (l : List (Nat × Nat)), fieldTabL P fs = some l → (List.mapM (m := Sem) (fun f : Field => Prod.mk f.offset <$> sizeOf f.type) fs).run P w = .ok l w
  | [], l, h => by
    unfold fieldTabL at h
    injection h with h; subst h
    simp
  | f :: fs, l, h => by
    unfold fieldTabL at h
    split at h
    · rename_i i l' hi hl
      injection h with h; subst h
      have ih := run_places (w := w) fs l' hl
      have h1 : (sizeOf f.type).run P w = .ok i.size w := by simp [sizeOf, typeInfo, hi]
      simp [List.mapM_cons, ih, h1]
    · cases h
section
variable {P : Program} {e : Env} {w : World} {d : Option Tmp} {ty : TypeId} {ps : String} {af : Array Edge} {g : Option (Nat × Bool)}
theorem op_build {t : TypeId} {parts : List (Nat × Operand)} {z : List Value} {tab : List (Nat × Nat)} {cs : List Value} (qs : List (Nat × List Value)) (hz : zeroOf P t = some (.agg z.toArray)) (ht : fieldTab P t = some tab) (hq : fillOk tab z.length (parts.map fun p => (p.1, eev e p.2)) qs) (hc : fillL z qs = cs) :
    OpV P e w ⟨d, .build t parts.toArray, ty, ps, af, g⟩ (.agg cs.toArray) := by
  subst hc
  unfold fieldTab at ht
  split at ht
  · rename_i fs hu
    cases hi : P.info? t with
    | none => rw [zeroOf, hi] at hz; cases hz
    | some i =>
      have hz' : i.zero = some (.agg z.toArray) := by rw [zeroOf, hi] at hz; simpa using hz
      have hp : (Array.mapM (m := Sem) (fun f : Field => Prod.mk f.offset <$> sizeOf f.type) fs).run P w = .ok tab.toArray w := by
        have := run_places (w := w) fs.toList tab ht
        rw [Array.mapM_eq_mapM_toList]
        simp [this]
      simp only [OpV, execOp, Instr.build]
      simp only [Sem.run_bind, zeroValue, typeInfo, run_underlying hu]
      simp [hi, hz', Value.cells, hp]
      rw [fill_fillL (fun i => tab[i]?) tab (fun i p h => h) _ qs z (by simpa using hq)]
      simp
  · cases ht
def oneSz (P : Program) (t : TypeId) : Bool :=
  match P.info? t with
  | some i => Nat.beq i.size 1
  | none => false
def rowOk (P : Program) (t el size bytes : Nat) : Bool :=
  match P.underlying t with
  | some (.slice e') => Nat.beq e' el && (match P.info? el with
    | some i => Nat.beq i.size size && (Nat.beq i.bytes bytes && (match i.zero with
      | some z => Nat.beq z.cells.size size && Nat.blt 0 size
      | none => false))
    | none => false)
  | _ => false
theorem rowOk_spec {P : Program} {t el size bytes : Nat} (h : rowOk P t el size bytes = true) : P.underlying t = some (.slice el) ∧ ∃ i z, P.info? el = some i ∧ i.zero = some z ∧ i.size = size ∧ i.bytes = bytes ∧ z.cells.size = size ∧ 0 < size := by
  unfold rowOk at h
  split at h
  · rename_i e' hu
    simp only [Bool.and_eq_true] at h
    obtain ⟨h1, h2⟩ := h
    obtain rfl := Nat.eq_of_beq_eq_true h1
    split at h2
    · rename_i i hi
      simp only [Bool.and_eq_true] at h2
      obtain ⟨h3, h4, h5⟩ := h2
      split at h5
      · rename_i z hz
        simp only [Bool.and_eq_true] at h5
        exact ⟨hu, i, z, hi, hz, Nat.eq_of_beq_eq_true h3, Nat.eq_of_beq_eq_true h4, Nat.eq_of_beq_eq_true h5.1, by simpa using h5.2⟩
      · cases h5
    · cases h2
  · cases h
/-- '[]T{}'. -/
theorem op_slice0 {t el size bytes : Nat} (h : rowOk P t el size bytes = true) : (execOp (eev e) ⟨d, .buildSlice t 0 #[], ty, ps, af, g⟩).run P w = .ok (.value (.slice (some ⟨w.heap.size, 0, none⟩) 0 0)) (w.alloc (.cells #[] el)) := by
  obtain ⟨hu, i, z, hi, hz, h1, h2, h3, h4⟩ := rowOk_spec h
  have h0 : (Array.map (fun _ => (default : Value)) (Array.range 0)) = #[] := Array.eq_empty_of_size_eq_zero (by simp)
  simp [execOp, Instr.buildSlice, run_underlying hu, sizeOf, typeInfo, hi, Instr.fill, newRow, h0]
/-- '[]T{x}'. -/
theorem op_slice1 {t el size bytes : Nat} {x : Operand} (cs : List Value) (h : rowOk P t el size bytes = true) (hx : (eev e x).cells = cs.toArray) (hl : cs.length = size) (hs : Nat.ble size 1000 = true) : (execOp (eev e) ⟨d, .buildSlice t 1 #[(0, x)], ty, ps, af, g⟩).run P w = .ok (.value (.slice (some ⟨w.heap.size, 0, none⟩) 1 1)) (w.alloc (.cells cs.toArray el)) := by
  obtain ⟨hu, i, z, hi, hz, h1, h2, h3, h4⟩ := rowOk_spec h
  have hs' : size ≤ 1000 := Nat.le_of_ble_eq_true hs
  have hsz : ¬ 2 ^ 24 < size := by omega
  have hfill : Instr.fill (fun i => some (i * size, size)) ((Array.range (1 * size)).map (z.cells[· % z.cells.size]!)) [(0, eev e x)] = some cs.toArray := by
    have e0 : (Array.range (1 * size)).map (z.cells[· % z.cells.size]!) = (((Array.range (1 * size)).map (z.cells[· % z.cells.size]!)).toList).toArray := by rw [Array.toArray_toList]
    rw [e0]
    generalize hL : ((Array.range (1 * size)).map (z.cells[· % z.cells.size]!)).toList = L
    have hLl : L.length = size := by rw [← hL]; simp
    have := fill_fillL (fun i => some (i * size, size)) [(0, size)] (fun i p hp => by
      cases i with
      | zero => simp at hp ⊢; exact hp
      | succ i => simp at hp) [(0, eev e x)] [(0, cs)] L ⟨by simp [hl], hx, by rw [hLl, hl]; omega, trivial⟩
    rw [this]
    congr 1
    have : putL L 0 cs = cs := by
      have gen : ∀ (cs pre L : List Value), L.length = cs.length → putL (pre ++ L) pre.length cs = pre ++ cs := by
        intro cs
        induction cs with
        | nil => intro pre L hL; have : L = [] := List.eq_nil_of_length_eq_zero (by simpa using hL); subst this; rfl
        | cons c cs ih =>
          intro pre L hL
          cases L with
          | nil => simp at hL
          | cons l L =>
            unfold putL
            have h1 : (pre ++ l :: L).set pre.length c = (pre ++ [c]) ++ L := by simp
            rw [h1]
            have := ih (pre ++ [c]) L (by simpa using hL)
            simp only [List.length_append, List.length_cons, List.length_nil, Nat.zero_add] at this
            rw [this]; simp
      have := gen cs [] L (by rw [hLl, hl])
      simpa using this
    simp only [fillL, this]
  have hne : ¬ size = 0 := by omega
  simp only [execOp, Instr.buildSlice]
  simp only [Sem.run_bind, run_underlying hu, sizeOf, typeInfo]
  simp [hi, h1, hsz, hne, zeroValue, typeInfo, hz]
  have hfill' := hfill
  simp only [Nat.one_mul] at hfill'
  simp [hfill', newRow]
theorem wl_append {n : Nat} {Q : Exit → Act → World → Prop} {ops : Array Oper} {rest : List Oper} (dd : Nat) {s x : Operand} {t el size bytes : Nat} {base : Nat} {v : Value} {k : Nat} {xs : List Value} {ad : Addr} {m c : Nat} {news : List Value}
    (hc : chk ops e n ⟨d, .call ⟨.builtin .append, #[s, x], #[t, t]⟩, ty, ps, af, g⟩ dd true = true) (hT : rowOk P t el size bytes = true) (hs : eev e s = v) (hown : w.ownsRow base el size v k xs) (hx : eev e x = .slice (some ad) m c) (hl : news.length = m * size)
    (hnews : ∀ j u, news[j]? = some u → w.cell? (ad.add j) = some u) (h1 : ∀ u ∈ news, u.oneCell' = true) (h63 : k + m ≤ maxLen) (hbytes : (k + m) * bytes ≤ 140737488355328) (hbase : base ≤ w.heap.size)
    (next : ∀ v' w', w'.ownsRow base el size v' (k + m) (xs ++ news) → w.grownBy w' v.ownBlock → wl P n ops Q rest ((dd, v') :: e) w') : wl P n ops Q (⟨d, .call ⟨.builtin .append, #[s, x], #[t, t]⟩, ty, ps, af, g⟩ :: rest) e w := fun a hf => by
  obtain ⟨hd, hn, hs1, hg, hk⟩ := chk_spec hc
  obtain ⟨hu, i, z, hi, hz, q1, q2, q3, q4⟩ := rowOk_spec hT
  have hk' := eall_mem (hk rfl)
  refine wpList_step fun K hK => ?_
  rw [if_pos (gOk_wanted hf hg)]
  refine wp_append_own w s x t rfl base el i z size bytes hu hi hz q1 q2 q3 q4 v k xs ((hf.eval s (hk' s (by simp [Op.operands, Call.operands]))).trans hs) hown ad m c news ((hf.eval x (hk' x (by simp [Op.operands, Call.operands]))).trans hx) hl hnews h1 h63 hbytes hbase fun v' w' h2 h3 _ => ?_
  simp only at hd
  subst hd
  exact hK _ _ (next v' w' h2 h3 _ (hf.put hn v'))
/-- A store of one cell. -/
theorem op_store {t : TypeId} {x y : Operand} {p : Addr} {u v : Value} (hx : eev e x = .pointer (some p)) (hy : eev e y = v) (h1 : oneSz P t = true) (hv : v.oneCell' = true) (hc : w.cell? p = some u) (hf : w.frozen? p = false) : (execOp (eev e) ⟨d, .store t x y, ty, ps, af, g⟩).run P w = .ok .skip (w.setCell p v) := by
  subst hy
  unfold oneSz at h1
  cases hi : P.info? t with
  | none => rw [hi] at h1; cases h1
  | some i =>
    have hsz : i.size = 1 := by rw [hi] at h1; exact Nat.eq_of_beq_eq_true h1
    simp only [execOp, Instr.storeAt, hx]
    have hcl : (eev e y).cells = #[eev e y] := by
      revert hv
      cases eev e y <;> simp [Value.cells, Value.oneCell']
    revert hv hcl
    generalize eev e y = v
    intro hv hcl
    simp [Instr.sureAddr, storeVar, sizeOf, typeInfo, hi, hsz, hcl, storeCells, Addr.add, run_store P w p v _ hv, hc, hf]
/-- 'var x T' of a variable that has an address. -/
theorem op_alloc {t : TypeId} (z : List Value) {v : Value} (hz : zeroOf P t = some v) (hv : v.cells = z.toArray) : (execOp (eev e) ⟨d, .alloc t, ty, ps, af, g⟩).run P w = .ok (.value (.pointer (some ⟨w.heap.size, 0, none⟩))) (w.alloc (.cells z.toArray t)) := by
  cases hi : P.info? t with
  | none => rw [zeroOf, hi] at hz; cases hz
  | some i =>
    have hz' : i.zero = some v := by rw [zeroOf, hi] at hz; simpa using hz
    simp [execOp, Instr.alloc, zeroValue, typeInfo, hi, hz', newVar, newRow, hv]
theorem setCell_new (w : World) (c : List Value) (t : TypeId) (i : Nat) (v : Value) : (w.alloc (.cells c.toArray t)).setCell ⟨w.heap.size, i, none⟩ v = w.alloc (.cells (c.set i v).toArray t) := by
  simp [World.setCell_alloc_at]
theorem run_storeCells_new (w : World) (t : TypeId) : ∀ (vs c : List Value) (i : Nat), (∀ u ∈ vs, u.oneCell' = true) → i + vs.length ≤ c.length → (storeCells ⟨w.heap.size, 0, none⟩ vs i).run P (w.alloc (.cells c.toArray t)) = .ok () (w.alloc (.cells (putL c i vs).toArray t))
  | [], c, i, _, _ => by simp [storeCells, putL]
  | v :: vs, c, i, h1, hl => by
    have ih := run_storeCells_new w t vs (c.set i v) (i + 1) (fun u hu => h1 u (List.mem_cons_of_mem _ hu)) (by simp at hl ⊢; omega)
    have hb := Blk.new w t c
    have hc : (w.alloc (.cells c.toArray t)).cell? ⟨w.heap.size, i, none⟩ = some (c[i]'(by simp at hl; omega)) := hb.at_ i (by simp)
    have hadd : (⟨w.heap.size, 0, none⟩ : Addr).add i = ⟨w.heap.size, i, none⟩ := by unfold Addr.add; split <;> simp_all
    simp only [storeCells, Sem.run_bind, hadd]
    rw [run_store P _ _ v _ (h1 v (List.mem_cons_self ..))]
    simp only [hc, hb.free i, Bool.false_eq_true, if_false, Result.andThen, setCell_new]
    exact ih
theorem putL_all (cs L : List Value) (h : L.length = cs.length) : putL L 0 cs = cs := by
  have gen : ∀ (cs pre L : List Value), L.length = cs.length → putL (pre ++ L) pre.length cs = pre ++ cs := by
    intro cs
    induction cs with
    | nil => intro pre L hL; have : L = [] := List.eq_nil_of_length_eq_zero (by simpa using hL); subst this; rfl
    | cons c cs ih =>
      intro pre L hL
      cases L with
      | nil => simp at hL
      | cons l L =>
        unfold putL
        have h1 : (pre ++ l :: L).set pre.length c = (pre ++ [c]) ++ L := by simp
        rw [h1]
        have := ih (pre ++ [c]) L (by simpa using hL)
        simp only [List.length_append, List.length_cons, List.length_nil, Nat.zero_add] at this
        rw [this]; simp
  have := gen cs [] L h
  simpa using this
def sizeIs (P : Program) (t n : Nat) : Bool :=
  match P.info? t with
  | some i => Nat.beq i.size n
  | none => false
/-- 'x := y' of a variable that has an address: the block is made and filled. -/
theorem wl_let {n : Nat} {Q : Exit → Act → World → Prop} {ops : Array Oper} {rest : List Oper} (dd : Nat) {t : TypeId} {x : Operand} {ty' : TypeId} {ps' : String} {af' : Array Edge} {g' : Option (Nat × Bool)} (z cs : List Value) {v : Value}
    (hc : chk ops e n ⟨d, .alloc t, ty, ps, af, g⟩ dd true = true) (hz : zeroOf P t = some v) (hv : v.cells = z.toArray) (hl : z.length = cs.length) (hs : sizeIs P t cs.length = true)
    (hc' : ∀ p, chk0 ops ((dd, .pointer p) :: e) ⟨none, .store t (.tmp dd) x, ty', ps', af', g'⟩ = true) (hx : ∀ p, (eev ((dd, .pointer p) :: e) x).cells = cs.toArray) (h1 : cs.all Value.oneCell' = true)
    (next : ∀ w1, w1 = w.alloc (.cells cs.toArray t) → wl P n ops Q rest ((dd, .pointer (some ⟨w.heap.size, 0, none⟩)) :: e) w1) :
    wl P n ops Q (⟨d, .alloc t, ty, ps, af, g⟩ :: ⟨none, .store t (.tmp dd) x, ty', ps', af', g'⟩ :: rest) e w := by
  refine wl_run dd hc (op_alloc z hz hv) (wl_do (hc' _) ?_ (next _ rfl))
  have hp : eev ((dd, .pointer (some ⟨w.heap.size, 0, none⟩)) :: e) (.tmp dd) = .pointer (some ⟨w.heap.size, 0, none⟩) := eget_hit _ _ _
  have hx' := hx (some ⟨w.heap.size, 0, none⟩)
  generalize ((dd, Value.pointer (some ⟨w.heap.size, 0, none⟩)) :: e) = e' at hp hx' ⊢
  unfold sizeIs at hs
  cases hi : P.info? t with
  | none => rw [hi] at hs; cases hs
  | some i =>
    have hsz : i.size = cs.length := by rw [hi] at hs; exact Nat.eq_of_beq_eq_true hs
    have hst := run_storeCells_new (P := P) w t cs z 0 (fun u hu => List.all_eq_true.1 h1 u hu) (by omega)
    rw [putL_all cs z hl] at hst
    simp only [execOp, Instr.storeAt, hp]
    simp [Instr.sureAddr, storeVar, sizeOf, typeInfo, hi, hsz, hx', hst]
theorem op_makeFunc {f : Fn} {l : List Operand} : OpV P e w ⟨d, .makeFunc f #[] l.toArray, ty, ps, af, g⟩ (.func f #[] (l.map (eev e)).toArray) := by
  simp [OpV, execOp, Instr.makeFunc]
/-- A whole block that has just been made is filled. -/
theorem op_fill {t : TypeId} {x y : Operand} (z cs : List Value) (hp : eev e x = .pointer (some ⟨w.heap.size, 0, none⟩)) (hl : z.length = cs.length) (hs : sizeIs P t cs.length = true) (hx : (eev e y).cells = cs.toArray) (h1 : cs.all Value.oneCell' = true) :
    (execOp (eev e) ⟨d, .store t x y, ty, ps, af, g⟩).run P (w.alloc (.cells z.toArray t)) = .ok .skip (w.alloc (.cells cs.toArray t)) := by
  unfold sizeIs at hs
  cases hi : P.info? t with
  | none => rw [hi] at hs; cases hs
  | some i =>
    have hsz : i.size = cs.length := by rw [hi] at hs; exact Nat.eq_of_beq_eq_true hs
    have hst := run_storeCells_new (P := P) w t cs z 0 (fun u hu => List.all_eq_true.1 h1 u hu) (by omega)
    rw [putL_all cs z hl] at hst
    simp only [execOp, Instr.storeAt, hp]
    simp [Instr.sureAddr, storeVar, sizeOf, typeInfo, hi, hsz, hx, hst]
theorem wl_donew {n : Nat} {Q : Exit → Act → World → Prop} {ops : Array Oper} {rest : List Oper} {o : Oper} {w' : World} (hc : chk0 ops e o = true) (hv : (execOp (eev e) o).run P w = .ok .skip w') (next : ∀ w1, w1 = w' → wl P n ops Q rest e w1) : wl P n ops Q (o :: rest) e w := wl_do hc hv (next _ rfl)
theorem op_makeFuncC {f : Fn} {l : List Operand} (cs : List Value) (h : l.map (eev e) = cs) : OpV P e w ⟨d, .makeFunc f #[] l.toArray, ty, ps, af, g⟩ (.func f #[] cs.toArray) := by
  subst h; exact op_makeFunc
end
end Go.Proofs.YtpbgfdmkebnjgaaGreatDoor
