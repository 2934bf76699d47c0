/- Deco: the shortest forms. -/
import Derived.Test.YtbnimhmoffchdaaGreatDoorDN
namespace Go.Proofs.YtbnimhmoffchdaaGreatDoor
open Go.RowKit
set_option linter.unusedSectionVars false
variable [JF]

abbrev Ad : Type := Option Addr
abbrev VI : Int → Unit → Value := fun r _ => .int .i64 r
abbrev VB : Bool → Unit → Value := fun r _ => .bool r
abbrev H0 {α ξ : Type} : α → ξ → List HE := fun _ _ => []
abbrev I (n : Int) : Value := .int .i64 n
abbrev S (A : Option Addr) (n c : Nat) : Value := .slice A n c
abbrev B (b : Bool) : Value := .bool b
theorem dt {p : Prop} [Decidable p] (h : p) : decide p = true := decide_eq_true h
theorem df {p : Prop} [Decidable p] (h : ¬ p) : decide p = false := decide_eq_false h
theorem hs (ks : List Nat) {w0 w : World} {H H' : List HE} (c : Hs w0 H w) (h1 : nodupB ks = true := by kernel_rfl) (h2 : hsel H ks = some H' := by rfl) : Hs w0 H' w := hsub ks h1 h2 w c
section
variable {P : Program} {n : Nat} {w0 : World} {ρ : Type} {Z : ρ → Exit → Act → World → Prop} {m : Option ρ} {H : List HE} {ops : Array Oper} {e : Env} {rest : List Oper} {dst : Option Tmp} {ty : TypeId} {ps : String} {af : Array Edge} {g : Option (Nat × Bool)} {K : Act → Prop}
/-- A load of one cell of a block of the call's own. -/
theorem vc (d k : Nat) {u : Value} {t t0 : TypeId} {x : Operand} {b j : Nat} {cs : List Value} (hx : eev e x = .pointer (some ⟨b, j, none⟩)) (hk : H[k]? = some (blkE b t0 cs)) (hu : cs[j]? = some u) (next : Lm P n w0 ops Z rest m ((d, u) :: e) H) (h1 : oneCell P t = true := by kernel_rfl) (hc : chk ops e n ⟨dst, .load t x, ty, ps, af, g⟩ d true = true := by kernel_rfl) :
  Lm P n w0 ops Z (⟨dst, .load t x, ty, ps, af, g⟩ :: rest) m e H := lm_val d hc (fun _ c => op_load hx h1 (c.cell k hk hu)) next
theorem qc (d k : Nat) {u : Value} {t t0 : TypeId} {x : Operand} {b j : Nat} {cs : List Value} (hx : eev e x = .pointer (some ⟨b, j, none⟩)) (hk : H[k]? = some (blkE b t0 cs)) (hu : cs[j]? = some u) (next : wq P n ops (Hs w0 H) K rest ((d, u) :: e)) (h1 : oneCell P t = true := by kernel_rfl) (hc : chk ops e n ⟨dst, .load t x, ty, ps, af, g⟩ d true = true := by kernel_rfl) :
  wq P n ops (Hs w0 H) K (⟨dst, .load t x, ty, ps, af, g⟩ :: rest) e := wq_val d hc (fun _ c => op_load hx h1 (c.cell k hk hu)) next
/-- A field's address. -/
theorem vf (d i k : Nat) {t : TypeId} {x : Operand} {f o b : Nat} (hx : eev e x = .pointer (some ⟨b, o, none⟩)) (next : Lm P n w0 ops Z rest m ((d, .pointer (some ⟨b, k, none⟩)) :: e) H) (hk : o + i = k := by rfl) (hf : fOff P t f = some i := by kernel_rfl) (hc : chk ops e n ⟨dst, .fieldAddr t x f, ty, ps, af, g⟩ d true = true := by kernel_rfl) :
  Lm P n w0 ops Z (⟨dst, .fieldAddr t x f, ty, ps, af, g⟩ :: rest) m e H := lm_val d hc (fun _ _ => op_fieldL hx hf hk) next
theorem qf (d i k : Nat) {C : World → Prop} {t : TypeId} {x : Operand} {f o b : Nat} (hx : eev e x = .pointer (some ⟨b, o, none⟩)) (next : wq P n ops C K rest ((d, .pointer (some ⟨b, k, none⟩)) :: e)) (hk : o + i = k := by rfl) (hf : fOff P t f = some i := by kernel_rfl) (hc : chk ops e n ⟨dst, .fieldAddr t x f, ty, ps, af, g⟩ d true = true := by kernel_rfl) :
  wq P n ops C K (⟨dst, .fieldAddr t x f, ty, ps, af, g⟩ :: rest) e := wq_val d hc (fun _ _ => op_fieldL hx hf hk) next
/-- The length of a slice. -/
theorem vn (d : Nat) {t : TypeId} {x : Operand} {A : Option Addr} {i c l : Nat} (hz : SW A i c l) (hx : eev e x = .slice A i c) (next : Lm P n w0 ops Z rest m ((d, .int .i64 (l : Int)) :: e) H) (ht : isSliceT P t = true := by kernel_rfl) (hc : chk ops e n ⟨dst, .call ⟨.builtin .len, #[x], #[t]⟩, ty, ps, af, g⟩ d true = true := by kernel_rfl) :
  Lm P n w0 ops Z (⟨dst, .call ⟨.builtin .len, #[x], #[t]⟩, ty, ps, af, g⟩ :: rest) m e H := lm_val d hc (fun _ _ => op_lenN hx ht hz.2.2) next
theorem qn (d : Nat) {C : World → Prop} {t : TypeId} {x : Operand} {A : Option Addr} {i c l : Nat} (hz : SW A i c l) (hx : eev e x = .slice A i c) (next : wq P n ops C K rest ((d, .int .i64 (l : Int)) :: e)) (ht : isSliceT P t = true := by kernel_rfl) (hc : chk ops e n ⟨dst, .call ⟨.builtin .len, #[x], #[t]⟩, ty, ps, af, g⟩ d true = true := by kernel_rfl) :
  wq P n ops C K (⟨dst, .call ⟨.builtin .len, #[x], #[t]⟩, ty, ps, af, g⟩ :: rest) e := wq_val d hc (fun _ _ => op_lenN hx ht hz.2.2) next
/-- The address of an element of a slice that was there. -/
theorem vi (d sz : Nat) {α : Type} {enc : α → List Value} {s : Nat} {l : List α} {t : TypeId} {x ix : Operand} {A : Option Addr} {i0 c : Nat} {i : Int} (hr : RdE w0 s enc A l) (hz : SW A i0 c l.length) (h : 0 ≤ i ∧ i < l.length) (hx : eev e x = .slice A i0 c) (hi : eev e ix = .int .i64 i) (next : Lm P n w0 ops Z rest m ((d, .pointer (some ⟨ab A, ao A + i.toNat * sz, none⟩)) :: e) H) (hs : elemSz P t = some sz := by kernel_rfl) (hc : chk ops e n ⟨dst, .indexAddr t x ix, ty, ps, af, g⟩ d true = true := by kernel_rfl) :
  Lm P n w0 ops Z (⟨dst, .indexAddr t x ix, ty, ps, af, g⟩ :: rest) m e H := lm_val d hc (fun _ c1 => op_indexA sz hx hi hs ((hr.old c1).addr h.1 h.2) hz.2.2 h.1 h.2) next
theorem qi (d sz : Nat) {α : Type} {enc : α → List Value} {s : Nat} {l : List α} {t : TypeId} {x ix : Operand} {A : Option Addr} {i0 c : Nat} {i : Int} (hr : RdE w0 s enc A l) (hz : SW A i0 c l.length) (h : 0 ≤ i ∧ i < l.length) (hx : eev e x = .slice A i0 c) (hi : eev e ix = .int .i64 i) (next : wq P n ops (Hs w0 H) K rest ((d, .pointer (some ⟨ab A, ao A + i.toNat * sz, none⟩)) :: e)) (hs : elemSz P t = some sz := by kernel_rfl) (hc : chk ops e n ⟨dst, .indexAddr t x ix, ty, ps, af, g⟩ d true = true := by kernel_rfl) :
  wq P n ops (Hs w0 H) K (⟨dst, .indexAddr t x ix, ty, ps, af, g⟩ :: rest) e := wq_val d hc (fun _ c1 => op_indexA sz hx hi hs ((hr.old c1).addr h.1 h.2) hz.2.2 h.1 h.2) next
/-- A region's results at its end. -/
theorem lf {C : World → Prop} {O b : Env} (k : Nat) (h2 : eqs e O) (hb : e.drop k = b := by rfl) (h1 : (dropOk (O.map (·.1)) k b e && allHas e O) = true := by kernel_rfl) : wq P n ops C (fun a => Fr n a (O ++ b)) [] e := leaf_q (sub_out k O hb h1 h2)
theorem lb {C : World → Prop} {t : Nat} {x y : Bool} {b : Env} (k : Nat) (hv : eget e t = .bool x) (h : x = y) (hb : e.drop k = b := by rfl) (h1 : (dropOk [t] k b e && allHas e [(t, .bool y)]) = true := by kernel_rfl) : wq P n ops C (fun a => Fr n a ([(t, .bool y)] ++ b)) [] e := leaf_q (sub_out k [(t, .bool y)] hb h1 ⟨h ▸ hv, trivial⟩)
/-- Returns. -/
theorem xr {α ξ : Type} {V : α → ξ → Value} {HR : α → ξ → List HE} {r : α} {fn : Func} {t : Nat} (ks : List Nat) (u : ξ) (hr : fn.results = #[.tmp t] := by rfl) (hk : ehas e t = true := by kernel_rfl) (hv : eget e t = V r u := by rfl) (h1 : nodupB ks = true := by kernel_rfl) (h2 : hsel H ks = some (HR r u) := by rfl) :
  Xm n w0 (fun r => bodyPost P fn fun x w1 => ∃ u, x = .returned (V r u) ∧ Hs w0 (HR r u) w1) .ret (some r) e H := xm_retT hr hk hv fun w1 c1 => ⟨u, rfl, hsub ks h1 h2 w1 c1⟩
theorem xrr {α ξ : Type} {V : α → ξ → Value} {HR : α → ξ → List HE} {r : α} {fn : Func} {t t' : Nat} (ks : List Nat) (u : ξ) (hr : fn.results = #[.tmp t, .tmp t'] := by rfl) (hk : ehas e t = true := by kernel_rfl) (hk' : ehas e t' = true := by kernel_rfl) (hv : Value.tuple #[eget e t, eget e t'] = V r u := by rfl) (h1 : nodupB ks = true := by kernel_rfl) (h2 : hsel H ks = some (HR r u) := by rfl) :
  Xm n w0 (fun r => bodyPost P fn fun x w1 => ∃ u, x = .returned (V r u) ∧ Hs w0 (HR r u) w1) .ret (some r) e H := xm_retTT hr hk rfl hk' rfl fun w1 c1 => ⟨u, congrArg Ending.returned hv, hsub ks h1 h2 w1 c1⟩
/-- Calls by contract. -/
theorem lc (d : Nat) {α ξ : Type} {f : FuncId} {l : List Operand} {ats : Array TypeId} {mf : Option α} {k : α → Option ρ} {V : α → ξ → Value} {HR : α → ξ → List HE} (hR : ∀ r, mf = some r → ∀ w, Hs w0 H w → Ret P f (l.map (eev e)) w V HR r) (next : ∀ r u, Lm P n w0 ops Z rest (k r) ((d, V r u) :: e) (HR r u ++ H))
  (hf : callOk P f = true := by kernel_rfl) (hc : chk ops e n ⟨dst, .call ⟨.value (.func f), l.toArray, ats⟩, ty, ps, af, g⟩ d true = true := by kernel_rfl) : Lm P n w0 ops Z (⟨dst, .call ⟨.value (.func f), l.toArray, ats⟩, ty, ps, af, g⟩ :: rest) (mf.bind k) e H := lm_call d hc (fun _ => op_call hf) hR next
theorem qk (d : Nat) {α : Type} {r : α} {f : FuncId} {l : List Operand} {ats : Array TypeId} {V : α → Unit → Value} (hR : ∀ w, Hs w0 H w → Ret P f (l.map (eev e)) w V (fun _ _ => []) r) (next : wq P n ops (Hs w0 H) K rest ((d, V r ()) :: e))
  (hf : callOk P f = true := by kernel_rfl) (hc : chk ops e n ⟨dst, .call ⟨.value (.func f), l.toArray, ats⟩, ty, ps, af, g⟩ d true = true := by kernel_rfl) : wq P n ops (Hs w0 H) K (⟨dst, .call ⟨.value (.func f), l.toArray, ats⟩, ty, ps, af, g⟩ :: rest) e :=
 wq_call d hc (fun _ _ => op_call hf) (fun w1 c1 => (hR w1 c1).mono fun _ _ ⟨_, hx, hu⟩ => ⟨hx, c1.call hu⟩) next
theorem vr (d : Nat) {α : Type} [Inhabited α] {enc : α → List Value} {s : Nat} {l : List α} {t : TypeId} {x : Operand} {A : Option Addr} {i : Int} (hr : RdE w0 s enc A l) (h : 0 ≤ i ∧ i < l.length) (hx : eev e x = .pointer (some ⟨ab A, ao A + i.toNat * s, none⟩)) (next : Lm P n w0 ops Z rest m ((d, .agg (enc (ix l i)).toArray) :: e) H) (hs : aggSz P t = some (enc (ix l i)).length := by kernel_rfl) (hc : chk ops e n ⟨dst, .load t x, ty, ps, af, g⟩ d true = true := by kernel_rfl) :
  Lm P n w0 ops Z (⟨dst, .load t x, ty, ps, af, g⟩ :: rest) m e H := lm_val d hc (fun _ c1 => op_loadR (enc (ix l i)) hx hs ((hr.old c1).row h.1 h.2)) next
theorem qr (d : Nat) {α : Type} [Inhabited α] {enc : α → List Value} {s : Nat} {l : List α} {t : TypeId} {x : Operand} {A : Option Addr} {i : Int} (hr : RdE w0 s enc A l) (h : 0 ≤ i ∧ i < l.length) (hx : eev e x = .pointer (some ⟨ab A, ao A + i.toNat * s, none⟩)) (next : wq P n ops (Hs w0 H) K rest ((d, .agg (enc (ix l i)).toArray) :: e)) (hs : aggSz P t = some (enc (ix l i)).length := by kernel_rfl) (hc : chk ops e n ⟨dst, .load t x, ty, ps, af, g⟩ d true = true := by kernel_rfl) :
  wq P n ops (Hs w0 H) K (⟨dst, .load t x, ty, ps, af, g⟩ :: rest) e := wq_val d hc (fun _ c1 => op_loadR (enc (ix l i)) hx hs ((hr.old c1).row h.1 h.2)) next
theorem vR (d : Nat) (ds : List Value) (k : Nat) {t t0 : TypeId} {x : Operand} {b o : Nat} {cs : List Value} (hx : eev e x = .pointer (some ⟨b, o, none⟩)) (hk : H[k]? = some (blkE b t0 cs)) (hd : (cs.drop o).take ds.length = ds) (next : Lm P n w0 ops Z rest m ((d, .agg ds.toArray) :: e) H) (hs : aggSz P t = some ds.length := by kernel_rfl) (hc : chk ops e n ⟨dst, .load t x, ty, ps, af, g⟩ d true = true := by kernel_rfl) :
  Lm P n w0 ops Z (⟨dst, .load t x, ty, ps, af, g⟩ :: rest) m e H := lm_val d hc (fun _ c1 => op_loadR ds hx hs (c1.cells k hk hd)) next
theorem qR (d : Nat) (ds : List Value) (k : Nat) {t t0 : TypeId} {x : Operand} {b o : Nat} {cs : List Value} (hx : eev e x = .pointer (some ⟨b, o, none⟩)) (hk : H[k]? = some (blkE b t0 cs)) (hd : (cs.drop o).take ds.length = ds) (next : wq P n ops (Hs w0 H) K rest ((d, .agg ds.toArray) :: e)) (hs : aggSz P t = some ds.length := by kernel_rfl) (hc : chk ops e n ⟨dst, .load t x, ty, ps, af, g⟩ d true = true := by kernel_rfl) :
  wq P n ops (Hs w0 H) K (⟨dst, .load t x, ty, ps, af, g⟩ :: rest) e := wq_val d hc (fun _ c1 => op_loadR ds hx hs (c1.cells k hk hd)) next
theorem va (d : Nat) {t t' : TypeId} {x y : Operand} {a b : Int} (h : -9223372036854775808 ≤ a + b ∧ a + b ≤ 9223372036854775807) (hx : eev e x = .int .i64 a) (hy : eev e y = .int .i64 b) (next : Lm P n w0 ops Z rest m ((d, .int .i64 (a + b)) :: e) H) (hc : chk ops e n ⟨dst, .binOp .add t x y t', ty, ps, af, g⟩ d true = true := by kernel_rfl) :
  Lm P n w0 ops Z (⟨dst, .binOp .add t x y t', ty, ps, af, g⟩ :: rest) m e H := lm_val d hc (fun _ _ => op_add hx hy h) next
theorem vF (d : Nat) {t : TypeId} {x : Operand} {f o b : Nat} (hx : eev e x = .pointer (some ⟨b, o, none⟩)) (next : Lm P n w0 ops Z rest m ((d, .pointer (some ⟨b, o, none⟩)) :: e) H) (hf : fOff P t f = some 0 := by kernel_rfl) (hc : chk ops e n ⟨dst, .fieldAddr t x f, ty, ps, af, g⟩ d true = true := by kernel_rfl) :
  Lm P n w0 ops Z (⟨dst, .fieldAddr t x f, ty, ps, af, g⟩ :: rest) m e H := lm_val d hc (fun _ _ => op_field0 hx hf) next
theorem qF (d : Nat) {C : World → Prop} {t : TypeId} {x : Operand} {f o b : Nat} (hx : eev e x = .pointer (some ⟨b, o, none⟩)) (next : wq P n ops C K rest ((d, .pointer (some ⟨b, o, none⟩)) :: e)) (hf : fOff P t f = some 0 := by kernel_rfl) (hc : chk ops e n ⟨dst, .fieldAddr t x f, ty, ps, af, g⟩ d true = true := by kernel_rfl) :
  wq P n ops C K (⟨dst, .fieldAddr t x f, ty, ps, af, g⟩ :: rest) e := wq_val d hc (fun _ _ => op_field0 hx hf) next
theorem qkb (d : Nat) {r : Bool} {f : FuncId} {l : List Operand} {ats : Array TypeId} (hR : ∀ w, Hs w0 H w → Ret P f (l.map (eev e)) w (fun (r : Bool) (_ : Unit) => .bool r) (fun _ _ => []) r) (h1 : r = true → wq P n ops (Hs w0 H) K rest ((d, .bool true) :: e)) (h2 : r = false → wq P n ops (Hs w0 H) K rest ((d, .bool false) :: e))
  (hf : callOk P f = true := by kernel_rfl) (hc : chk ops e n ⟨dst, .call ⟨.value (.func f), l.toArray, ats⟩, ty, ps, af, g⟩ d true = true := by kernel_rfl) : wq P n ops (Hs w0 H) K (⟨dst, .call ⟨.value (.func f), l.toArray, ats⟩, ty, ps, af, g⟩ :: rest) e :=
 wq_callb d hc (fun _ _ => op_call hf) (fun w1 c1 => (hR w1 c1).mono fun _ _ ⟨_, hx, hu⟩ => ⟨hx, c1.call hu⟩) h1 h2
/-- Blocks of the call's own. -/
theorem bx (d : Nat) {t : TypeId} {x : Operand} (cs : List Value) (hx : (eev e x).cells = cs.toArray) (next : ∀ b, Lm P n w0 ops Z rest m ((d, .pointer (some ⟨b, 0, none⟩)) :: e) (blkE b t cs :: H)) (hc : chk ops e n ⟨dst, .box t x, ty, ps, af, g⟩ d true = true := by kernel_rfl) : Lm P n w0 ops Z (⟨dst, .box t x, ty, ps, af, g⟩ :: rest) m e H := lm_box d cs hc hx next
theorem al (d : Nat) {t : TypeId} (z : List Value) {v : Value} (hv : v.cells = z.toArray) (next : ∀ b, Lm P n w0 ops Z rest m ((d, .pointer (some ⟨b, 0, none⟩)) :: e) (blkE b t z :: H)) (hz : zeroOf P t = some v := by kernel_rfl) (hc : chk ops e n ⟨dst, .alloc t, ty, ps, af, g⟩ d true = true := by kernel_rfl) : Lm P n w0 ops Z (⟨dst, .alloc t, ty, ps, af, g⟩ :: rest) m e H := lm_alloc d z hc hz hv next
theorem sA {H' : List HE} (k : Nat) {t : TypeId} {x y : Operand} {b j : Nat} {t0 : TypeId} {cs : List Value} (vs cs' : List Value) (hx : eev e x = .pointer (some ⟨b, j, none⟩)) (hy : (eev e y).cells = vs.toArray) (hv : vs.all Value.oneCell' = true) (hk : H[k]? = some (blkE b t0 cs)) (hcs : cs.take j ++ vs ++ cs.drop (j + vs.length) = cs') (hH : H.set k (blkE b t0 cs') = H') (next : Lm P n w0 ops Z rest m e H')
  (hc : chk0 ops e ⟨dst, .store t x y, ty, ps, af, g⟩ = true := by kernel_rfl) (hs : sizeIs P t vs.length = true := by kernel_rfl) (hj : Nat.ble (j + vs.length) cs.length = true := by kernel_rfl) : Lm P n w0 ops Z (⟨dst, .store t x y, ty, ps, af, g⟩ :: rest) m e H := lm_storeA k vs cs' hc hx hy hs hv hk hj hcs hH next
theorem ap {α : Type} (d k : Nat) {s x : Operand} {t el sz bytes : Nat} {enc : α → List Value} {A A2 : Option Addr} {n1 c n2 c2 : Nat} {l l2 : List α} (hz : ∀ x, (enc x).length = sz) (h1 : ∀ x, (enc x).all Value.oneCell' = true) (hk : H[k]? = some (ownE el sz enc A n1 c l)) (hs : eev e s = .slice A n1 c)
  (hx : eev e x = .slice A2 n2 c2) (hA2 : ∀ w, Hs w0 H w → SW A2 n2 c2 l2.length) (rd : ∀ w, Hs w0 H w → RdE w sz enc A2 l2) (hlen : (l.length + l2.length) * bytes ≤ 140737488355328) (next : ∀ A' n' c', Lm P n w0 ops Z rest m ((d, .slice A' n' c') :: e) (H.set k (ownE el sz enc A' n' c' (l ++ l2))))
  (hc : chk ops e n ⟨dst, .call ⟨.builtin .append, #[s, x], #[t, t]⟩, ty, ps, af, g⟩ d true = true := by kernel_rfl) (hT : rowOk P t el sz bytes = true := by kernel_rfl) (hby : Nat.blt 0 bytes = true := by kernel_rfl) : Lm P n w0 ops Z (⟨dst, .call ⟨.builtin .append, #[s, x], #[t, t]⟩, ty, ps, af, g⟩ :: rest) m e H := lm_append d k hc hT hz h1 hk hs hx hA2 rd hlen next hby
variable {m1 m2 : Option ρ}
theorem cc {c : Operand} {x y : Code} {φ : Prop} [Decidable φ] (hc : eev e c = .bool (decide φ)) (h1 : φ → Cm P n w0 x Z m1 e H) (h2 : ¬ φ → Cm P n w0 y Z m2 e H) (hk : eknown e c = true := by kernel_rfl) : Cm P n w0 (.cond c x y) Z (if φ then m1 else m2) e H := cm_cond hk hc h1 h2
theorem cB {c : Operand} {x y : Code} {b : Bool} (hc : eev e c = .bool b) (h1 : b = true → Cm P n w0 x Z m1 e H) (h2 : b = false → Cm P n w0 y Z m2 e H) (hk : eknown e c = true := by kernel_rfl) : Cm P n w0 (.cond c x y) Z (if b = true then m1 else m2) e H := cm_condB hk hc h1 h2
end
section
variable {P : Program} {n : Nat} {σ : Type} {ops : Array Oper} {E : σ → Env} {F : σ → World → Prop} {S' : World → Prop} {fuel : Nat} {listed : Array Bool} {e : Env} {w : World} {o : Oper}
theorem wt (i d : Nat) {v : Value} (hi : ops[i]? = some o) (hv : ∀ w, S' w → OpV P e w o v) (hS : S' w) (next : wh P n ops E F S' fuel (done listed i) ((d, v) :: e) w) (hm : mayTake ops listed i = true := by kernel_rfl) (hc : chk ops e n o d true = true := by kernel_rfl) : wh P n ops E F S' (fuel + 1) listed e w := wh_take i d hi hm hc hv hS next
end
/-- Slots that were passed by. -/
def uz : Nat → Nat → Env → Env
 | _, 0, e => e
 | d, k + 1, e => (d, undef) :: uz (d - 1) k e
theorem xn {σ ξ ρ : Type} {n : Nat} {w0 : World} {E : σ → ξ → Env} {HH : σ → ξ → List HE} {Z : ρ → Exit → Act → World → Prop} {e : Env} {H : List HE} {s : σ} (x : ξ) (ks : List Nat) (h2 : (E s x).map (fun p => eget e p.1) = (E s x).map (·.2) := by kernel_rfl) (h1 : allHas e (E s x) = true := by kernel_rfl) (h3 : nodupB ks = true := by kernel_rfl) (h4 : hsel H ks = some (HH s x) := by rfl) :
  Xm n w0 (QL n w0 E HH Z) .normal (some (.next s)) e H := xm_lnext x (sq h2 h1) (sh ks h3 h4)
end Go.Proofs.YtbnimhmoffchdaaGreatDoor
