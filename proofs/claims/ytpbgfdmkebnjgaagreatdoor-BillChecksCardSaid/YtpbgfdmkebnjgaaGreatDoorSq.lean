/- Deco: short forms. A run of operations on slots alone is taken at once; rules for code that stand for two or three. -/
import Derived.Test.YtpbgfdmkebnjgaaGreatDoorDOps3
namespace Go.Proofs.YtpbgfdmkebnjgaaGreatDoor
open Go.RowKit
set_option linter.unusedSectionVars false
variable [JF]

/-- What an operation on slots alone yields. -/
def pv (e : Env) : Op → Option Value
  | .move x => some (eev e x)
  | .assign x => some (eev e x)
  | .pick c x y => match eev e c with
    | .bool b => match b with
      | true => some (eev e x)
      | false => some (eev e y)
    | _ => none
  | .extract x k => match eev e x with
    | .tuple vs => vs.toList[k]?
    | _ => none
  | .unOp .not _ x => match eev e x with
    | .bool b => some (.bool (!b))
    | _ => none
  | .binOp .lss _ x y _ => match eev e x, eev e y with
    | .int .i64 a, .int .i64 b => some (.bool (decide (a < b)))
    | _, _ => none
  | .binOp .leq _ x y _ => match eev e x, eev e y with
    | .int .i64 a, .int .i64 b => some (.bool (decide (a ≤ b)))
    | _, _ => none
  | .binOp .gtr _ x y _ => match eev e x, eev e y with
    | .int .i64 a, .int .i64 b => some (.bool (decide (b < a)))
    | _, _ => none
  | .binOp .geq _ x y _ => match eev e x, eev e y with
    | .int .i64 a, .int .i64 b => some (.bool (decide (b ≤ a)))
    | _, _ => none
  | .binOp .eql _ x y _ => match eev e x, eev e y with
    | .int .i64 a, .int .i64 b => some (.bool (decide (a = b)))
    | _, _ => none
  | .binOp .neq _ x y _ => match eev e x, eev e y with
    | .int .i64 a, .int .i64 b => some (.bool (decide (a ≠ b)))
    | _, _ => none
  | _ => none
theorem pv_ok {P : Program} {e : Env} {w : World} {d : Option Tmp} {ty : TypeId} {ps : String} {af : Array Edge} {g : Option (Nat × Bool)} {op : Op} {v : Value} (h : pv e op = some v) : OpV P e w ⟨d, op, ty, ps, af, g⟩ v := by
  unfold pv at h
  split at h
  · injection h with h; exact op_move h
  · injection h with h; exact op_assign h
  · split at h
    · rename_i hc
      split at h
      · injection h with h; exact op_pick_t hc h
      · injection h with h; exact op_pick_f hc h
    · cases h
  · split at h
    · rename_i hx
      exact op_extract hx (by simpa using h)
    · cases h
  · split at h
    · rename_i hx
      injection h with h; subst h; exact op_not hx
    · cases h
  all_goals first
    | (split at h
       · rename_i hx hy
         injection h with h
         subst h
         first | exact op_lss hx hy | exact op_leq hx hy | exact op_gtr hx hy | exact op_geq hx hy | exact op_eql hx hy | exact op_neq hx hy
       · cases h)
    | cases h
/-- The first k operations, each on slots alone or not wanted: the slots behind them, and what is left. -/
def runS (ops : Array Oper) (n : Nat) : Nat → Env → List Oper → Option (Env × List Oper)
  | 0, e, l => some (e, l)
  | _ + 1, _, [] => none
  | k + 1, e, o :: l => match o.dst with
    | none => none
    | some d => match chk ops e n o d true with
      | true => match pv e o.op with
        | some v => runS ops n k ((d, v) :: e) l
        | none => none
      | false => match chk ops e n o d false with
        | true => runS ops n k ((d, undef) :: e) l
        | false => none
section
variable {P : Program} {n : Nat} {w0 : World} {ρ : Type} {Q : ρ → Exit → Act → World → Prop} {m : Option ρ} {H : List HE} {ops : Array Oper}
theorem la : ∀ (k : Nat) {e : Env} (e' : Env) {l l' : List Oper}, runS ops n k e l = some (e', l') → Lm P n w0 ops Q l' m e' H → Lm P n w0 ops Q l m e H
  | 0, e, e', l, l', h, next => by
    simp only [runS, Option.some.injEq, Prod.mk.injEq] at h
    obtain ⟨rfl, rfl⟩ := h
    exact next
  | k + 1, e, e', [], l', h, _ => by cases h
  | k + 1, e, e', o :: l, l', h, next => by
    unfold runS at h
    split at h
    · cases h
    · rename_i d _
      split at h
      · rename_i hc
        split at h
        · rename_i v hv
          exact lm_val d hc (fun w _ => pv_ok hv) (la k e' h next)
        · cases h
      · split at h
        · rename_i hc
          exact lm_skip d hc (la k e' h next)
        · cases h
theorem qa {C : World → Prop} {K : Act → Prop} : ∀ (k : Nat) {e : Env} (e' : Env) {l l' : List Oper}, runS ops n k e l = some (e', l') → wq P n ops C K l' e' → wq P n ops C K l e
  | 0, e, e', l, l', h, next => by
    simp only [runS, Option.some.injEq, Prod.mk.injEq] at h
    obtain ⟨rfl, rfl⟩ := h
    exact next
  | k + 1, e, e', [], l', h, _ => by cases h
  | k + 1, e, e', o :: l, l', h, next => by
    unfold runS at h
    split at h
    · cases h
    · rename_i d _
      split at h
      · rename_i hc
        split at h
        · rename_i v hv
          exact wq_val d hc (fun w _ => pv_ok hv) (qa k e' h next)
        · cases h
      · split at h
        · rename_i hc
          exact wq_skip d hc (qa k e' h next)
        · cases h
variable {e : Env}
theorem sr {id : Nat} {l : List Oper} {y : Code} (h : Lm P n w0 l.toArray (fun r => Exit.then (y.wp P (Q r)) (Q r)) l m e H) : Cm P n w0 (.seq (.region id l.toArray false) y) Q m e H := cm_seq (cm_region h)
theorem nn {y : Code} {Q' : ρ → Exit → Act → World → Prop} (h : Cm P n w0 y Q' m e H) : Lm P n w0 ops (fun r => Exit.then (y.wp P (Q' r)) (Q r)) [] m e H := lm_nil (xm_next h)
theorem sk {y : Code} {Q' : ρ → Exit → Act → World → Prop} (h : Cm P n w0 y Q' m e H) : Cm P n w0 .skip (fun r => Exit.then (y.wp P (Q' r)) (Q r)) m e H := cm_skip (xm_next h)
theorem v_ {o : Oper} {rest : List Oper} (d : Nat) {v : Value} (hv : ∀ w, Hs w0 H w → OpV P e w o v) (next : Lm P n w0 ops Q rest m ((d, v) :: e) H) (hc : chk ops e n o d true = true := by kernel_rfl) : Lm P n w0 ops Q (o :: rest) m e H := lm_val d hc hv next
theorem q_ {C : World → Prop} {K : Act → Prop} {o : Oper} {rest : List Oper} (d : Nat) {v : Value} (hv : ∀ w, C w → OpV P e w o v) (next : wq P n ops C K rest ((d, v) :: e)) (hc : chk ops e n o d true = true := by kernel_rfl) : wq P n ops C K (o :: rest) e := wq_val d hc hv next
theorem qd {C : World → Prop} {K : Act → Prop} {o : Oper} {rest : List Oper} (d : Nat) {φ : Prop} [Decidable φ] (hv : ∀ w, C w → OpV P e w o (.bool (decide φ))) (ht : φ → wq P n ops C K rest ((d, .bool true) :: e)) (hf : ¬ φ → wq P n ops C K rest ((d, .bool false) :: e)) (hc : chk ops e n o d true = true := by kernel_rfl) : wq P n ops C K (o :: rest) e := wq_dec d hc hv ht hf
end
section
variable {P : Program} {e : Env} {w : World} {d : Option Tmp} {ty : TypeId} {ps : String} {af : Array Edge} {g : Option (Nat × Bool)}
theorem oL {t : TypeId} {x : Operand} {p : Addr} {v : Value} (hc : w.cell? p = some v) (hx : eev e x = .pointer (some p) := by rfl) (h1 : oneCell P t = true := by kernel_rfl) : OpV P e w ⟨d, .load t x, ty, ps, af, g⟩ v := op_load hx h1 hc
theorem oR {t : TypeId} {x : Operand} {b o : Nat} (cs : List Value) (hc : ∀ j v, cs[j]? = some v → w.cell? ⟨b, o + j, none⟩ = some v) (hx : eev e x = .pointer (some ⟨b, o, none⟩) := by rfl) (hs : aggSz P t = some cs.length := by kernel_rfl) : OpV P e w ⟨d, .load t x, ty, ps, af, g⟩ (.agg cs.toArray) := op_loadR cs hx hs hc
theorem oF {t : TypeId} {x : Operand} {f o b : Nat} (m k : Nat) (hx : eev e x = .pointer (some ⟨b, o, none⟩)) (hk : o + m = k := by rfl) (hf : fOff P t f = some m := by kernel_rfl) : OpV P e w ⟨d, .fieldAddr t x f, ty, ps, af, g⟩ (.pointer (some ⟨b, k, none⟩)) := op_fieldL hx hf hk
theorem oI {t : TypeId} {x ix : Operand} {A : Option Addr} {l c : Nat} (sz : Nat) {i : Int} {ll : Nat} (hx : eev e x = .slice A l c) (hi : eev e ix = .int .i64 i) (hA : A = some ⟨ab A, ao A, none⟩) (hn : l = ll) (h : 0 ≤ i ∧ i < ll) (hs : elemSz P t = some sz := by kernel_rfl) : OpV P e w ⟨d, .indexAddr t x ix, ty, ps, af, g⟩ (.pointer (some ⟨ab A, ao A + i.toNat * sz, none⟩)) := op_indexA sz hx hi hs hA hn h.1 h.2
end
section
variable {P : Program} {n : Nat} {w0 : World} {ρ ξ : Type} {m : Option ρ}
/-- The call returns, as V says, with HR in new memory. -/
abbrev Ret (P : Program) (f : FuncId) (args : List Value) (w0 : World) (V : ρ → ξ → Value) (HR : ρ → ξ → List HE) (r : ρ) : Prop := Calls P f args.toArray w0 fun x w1 => ∃ u, x = .returned (V r u) ∧ Hs w0 (HR r u) w1
theorem calls_v {f : FuncId} {fn : Func} {c : Code} {args : List Value} {V : ρ → ξ → Value} {HR : ρ → ξ → List HE} (r : ρ) (hr : m = some r) (hf : P.funcs[f]? = some fn) (h : Cm P n w0 c (fun r => bodyPost P fn fun x w1 => ∃ u, x = .returned (V r u) ∧ Hs w0 (HR r u) w1) m (argEnv 0 args) []) (hl : Nat.ble args.length n = true := by rfl) (hb : fn.body = some c := by rfl) (hn : fn.ntmps = n := by rfl) : Ret P f args w0 V HR r :=
  calls_cm (R := fun r x w1 => ∃ u, x = .returned (V r u) ∧ Hs w0 (HR r u) w1) hf hb hn (Nat.le_of_ble_eq_true hl) h r hr
end
/-- Slots by one look. -/
theorem sq {e e' : Env} (h2 : e'.map (fun p => eget e p.1) = e'.map (·.2) := by kernel_rfl) (h1 : allHas e e' = true := by kernel_rfl) : Sub e e' := fun n a hf => by
  have key : ∀ O : Env, O.map (fun p => eget e p.1) = O.map (·.2) → eqs e O := fun O => by
    induction O with
    | nil => intro _; trivial
    | cons p O ih =>
      intro h
      simp only [List.map_cons, List.cons.injEq] at h
      exact ⟨h.1, ih h.2⟩
  refine ⟨hf.size, hf.defers, fun i hi => ?_⟩
  obtain ⟨h3, h4⟩ := eqs_get h1 (key _ h2) i hi
  rw [← h4]; exact hf.at_ i h3
theorem sh (ks : List Nat) {w0 : World} {H H' : List HE} (h1 : nodupB ks = true := by kernel_rfl) (h2 : hsel H ks = some H' := by rfl) : HSub w0 H H' := hsub ks h1 h2
theorem lq {P : Program} {n : Nat} {ops : Array Oper} {C : World → Prop} {e O b : Env} (k : Nat) (hb : e.drop k = b := by rfl) (h1 : (dropOk (O.map (·.1)) k b e && allHas e O) = true := by kernel_rfl) (h2 : O.map (fun p => eget e p.1) = O.map (·.2) := by kernel_rfl) : wq P n ops C (fun a => Fr n a (O ++ b)) [] e := by
  refine leaf_q (sub_out k O hb h1 ?_)
  clear h1 hb
  induction O with
  | nil => trivial
  | cons p O ih =>
    simp only [List.map_cons, List.cons.injEq] at h2
    exact ⟨h2.1, ih h2.2⟩
end Go.Proofs.YtpbgfdmkebnjgaaGreatDoor
