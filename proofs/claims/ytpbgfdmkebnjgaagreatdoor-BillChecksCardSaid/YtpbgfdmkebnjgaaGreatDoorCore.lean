/- A calculus for walks: frames known by a list of slots; rules for code, regions and loops; the operations' laws. Over any program. -/
import Derived.Test.YtpbgfdmkebnjgaaGreatDoorBase
namespace Go.Proofs.YtpbgfdmkebnjgaaGreatDoor
open Go.RowKit

abbrev Env := List (Nat × Value)
def eget : Env → Nat → Value
  | [], _ => undef
  | (k, v) :: l, i => match Nat.beq k i with
    | true => v
    | false => eget l i
def ehas : Env → Nat → Bool
  | [], _ => false
  | (k, _) :: l, i => match Nat.beq k i with
    | true => true
    | false => ehas l i
def eev (e : Env) : Operand → Value
  | .tmp t => eget e t
  | .const v => v
  | .global g => .pointer (some ⟨g, 0, none⟩)
  | .func f => .func (.func f) #[] #[]
def eknown (e : Env) : Operand → Bool
  | .tmp t => ehas e t
  | _ => true
def eall (e : Env) : List Operand → Bool
  | [] => true
  | x :: l => match eknown e x with
    | true => eall e l
    | false => false
theorem eall_mem {e : Env} : ∀ {l : List Operand}, eall e l = true → ∀ x ∈ l, eknown e x = true
  | [], _, x, hx => by cases hx
  | y :: l, h, x, hx => by
    unfold eall at h
    split at h
    · rename_i hy
      rcases List.mem_cons.1 hx with rfl | hx
      · exact hy
      · exact eall_mem h x hx
    · cases h

theorem eget_hit (i : Nat) (v : Value) (e : Env) : eget ((i, v) :: e) i = v := by unfold eget; rw [Nat.beq_refl]
theorem eget_miss {j i : Nat} (h : Nat.beq j i = false) (v : Value) (e : Env) : eget ((j, v) :: e) i = eget e i := by conv => lhs; unfold eget; rw [h]
theorem ehas_hit (i : Nat) (v : Value) (e : Env) : ehas ((i, v) :: e) i = true := by unfold ehas; rw [Nat.beq_refl]
theorem ehas_miss {j i : Nat} (h : Nat.beq j i = false) (v : Value) (e : Env) : ehas ((j, v) :: e) i = ehas e i := by conv => lhs; unfold ehas; rw [h]
/-- The frame a: n slots, no deferred call, and the slots that e names hold what e says. -/
structure Fr (n : Nat) (a : Act) (e : Env) : Prop where
  size : a.tmps.size = n
  defers : a.defers = []
  at_ : ∀ i, ehas e i = true → a.tmps.getD i undef = eget e i
theorem Fr.nil {n : Nat} {a : Act} {e : Env} (h : Fr n a e) : Fr n a [] := ⟨h.size, h.defers, fun i hi => by cases hi⟩
theorem Fr.eval {n : Nat} {a : Act} {e : Env} (h : Fr n a e) (x : Operand) (hx : eknown e x = true) : a.eval x = eev e x := by
  cases x with
  | tmp t => exact h.at_ t hx
  | const v => rfl
  | global g => rfl
  | func f => rfl
theorem Fr.put {n : Nat} {a : Act} {e : Env} (h : Fr n a e) {d : Nat} (hd : d < n) (v : Value) : Fr n (a.put (some d) v) ((d, v) :: e) := by
  refine ⟨by simp [Act.put, h.size], by simp [Act.put, h.defers], fun i hi => ?_⟩
  simp only [Act.put, Array.getD_eq_getD_getElem?]
  unfold eget
  unfold ehas at hi
  by_cases e1 : d = i
  · subst e1
    rw [Array.getElem?_setIfInBounds_self_of_lt (by rw [h.size]; exact hd)]
    rw [Nat.beq_refl]; rfl
  · have : Nat.beq d i = false := by cases hb : Nat.beq d i with
      | false => rfl
      | true => exact absurd (Nat.eq_of_beq_eq_true hb) e1
    rw [this] at hi ⊢
    rw [Array.getElem?_setIfInBounds_ne e1]
    have := h.at_ i hi
    rwa [Array.getD_eq_getD_getElem?] at this
theorem Fr.put_none {n : Nat} {a : Act} {e : Env} (h : Fr n a e) (v : Value) : Fr n (a.put none v) e := h
/-- All that e says, e' says too. -/
def Sub (e e' : Env) : Prop := ∀ n a, Fr n a e → Fr n a e'
theorem sub_nil {e : Env} : Sub e [] := fun _ _ h => h.nil
theorem sub_cons {e e' : Env} {i : Nat} {v : Value} (hk : ehas e i = true) (hv : eget e i = v) (h : Sub e e') : Sub e ((i, v) :: e') := fun n a hf => by
  have hf' := h n a hf
  refine ⟨hf'.size, hf'.defers, fun j hj => ?_⟩
  unfold eget
  unfold ehas at hj
  cases hb : Nat.beq i j with
  | true =>
    obtain rfl := Nat.eq_of_beq_eq_true hb
    rw [hf.at_ i hk, hv]
  | false => rw [hb] at hj; exact hf'.at_ j hj
theorem Sub.refl (e : Env) : Sub e e := fun _ _ h => h
theorem Sub.trans {a b c : Env} (h : Sub a b) (k : Sub b c) : Sub a c := fun n x hf => k n x (h n x hf)

/-- Code from a frame that e describes. -/
def wc (P : Program) (n : Nat) (c : Code) (Q : Exit → Act → World → Prop) (e : Env) (w : World) : Prop := ∀ a, Fr n a e → c.wp P Q a w
/-- What is asked behind an exit. -/
def wx (n : Nat) (Q : Exit → Act → World → Prop) (x : Exit) (e : Env) (w : World) : Prop := ∀ a, Fr n a e → Q x a w
def wl (P : Program) (n : Nat) (ops : Array Oper) (Q : Exit → Act → World → Prop) (l : List Oper) (e : Env) (w : World) : Prop := ∀ a, Fr n a e → wpList P ops Q l a w
section
variable {P : Program} {n : Nat} {Q : Exit → Act → World → Prop} {e e' : Env} {w : World}
theorem wc_sub {c : Code} (h : Sub e e') (k : wc P n c Q e' w) : wc P n c Q e w := fun a hf => k a (h n a hf)
theorem wx_sub {x : Exit} (h : Sub e e') (k : wx n Q x e' w) : wx n Q x e w := fun a hf => k a (h n a hf)
theorem wl_sub {ops : Array Oper} {l : List Oper} (h : Sub e e') (k : wl P n ops Q l e' w) : wl P n ops Q l e w := fun a hf => k a (h n a hf)
theorem wc_seq {x y : Code} (h : wc P n x (Exit.then (y.wp P Q) Q) e w) : wc P n (.seq x y) Q e w := fun a hf => wp_seq (h a hf)
theorem wc_region {id : Nat} {l : List Oper} (h : wl P n l.toArray Q l e w) : wc P n (.region id l.toArray false) Q e w := fun a hf => wp_region_lit (h a hf)
theorem wc_cond {c : Operand} {x y : Code} {t : Bool} (hk : eknown e c = true) (hc : eev e c = .bool t) (ht : t = true → wc P n x Q e w) (hf : t = false → wc P n y Q e w) : wc P n (.cond c x y) Q e w :=
  fun a hfr => wp_cond_split ((hfr.eval c hk).trans hc) (fun h => ht h a hfr) (fun h => hf h a hfr)
theorem wc_cond_t {c : Operand} {x y : Code} (hk : eknown e c = true) (hc : eev e c = .bool true) (h : wc P n x Q e w) : wc P n (.cond c x y) Q e w :=
  fun a hfr => wp_cond_true ((hfr.eval c hk).trans hc) (h a hfr)
theorem wc_cond_f {c : Operand} {x y : Code} (hk : eknown e c = true) (hc : eev e c = .bool false) (h : wc P n y Q e w) : wc P n (.cond c x y) Q e w :=
  fun a hfr => wp_cond_false ((hfr.eval c hk).trans hc) (h a hfr)
theorem wc_block {id : Nat} {c : Code} (h : wc P n c (Exit.inBlock id Q) e w) : wc P n (.block id c) Q e w := fun a hf => wp_block (h a hf)
theorem wc_skip (h : wx n Q .normal e w) : wc P n .skip Q e w := fun a hf => wp_skip (h a hf)
theorem wc_exit {id : Nat} (h : wx n Q (.exit id) e w) : wc P n (.exit id) Q e w := fun a hf => wp_exit (h a hf)
theorem wc_ret (h : wx n Q .ret e w) : wc P n .ret Q e w := fun a hf => wp_ret (h a hf)
/-- A cut behind a piece of code: what holds there is said by M. -/
theorem wc_cut {c : Code} (M : Act → World → Prop) {K : Act → World → Prop} (h : wc P n c (Exit.then M Q) e w) (k : ∀ a w, M a w → K a w) : wc P n c (Exit.then K Q) e w := fun a hf =>
  Code.wp_mono (fun x a w q => by cases x <;> first | exact k _ _ q | exact q) (h a hf)
theorem wx_then {y : Act → World → Prop} {x : Exit} (hx : x ≠ .normal) (h : wx n Q x e w) : wx n (Exit.then y Q) x e w := fun a hf => by
  cases x <;> first | exact absurd rfl hx | exact h a hf
theorem wx_thenE {y : Act → World → Prop} {i : Nat} (h : wx n Q (.exit i) e w) : wx n (Exit.then y Q) (.exit i) e w := h
theorem wx_thenR {y : Act → World → Prop} (h : wx n Q .ret e w) : wx n (Exit.then y Q) .ret e w := h
theorem wx_inR {i : Nat} (h : wx n Q .ret e w) : wx n (Exit.inBlock i Q) .ret e w := h
theorem wx_inN {i : Nat} (h : wx n Q .normal e w) : wx n (Exit.inBlock i Q) .normal e w := h
theorem wx_here {i : Nat} (h : wx n Q .normal e w) : wx n (Exit.inBlock i Q) (.exit i) e w := fun a hf => by simp only [Exit.inBlock, if_true]; exact h a hf
theorem wx_pass {i j : Nat} (hij : j ≠ i) (h : wx n Q (.exit j) e w) : wx n (Exit.inBlock i Q) (.exit j) e w := fun a hf => by simp only [Exit.inBlock, hij, if_false]; exact h a hf
theorem wx_next {y : Code} {Q' : Exit → Act → World → Prop} (h : wc P n y Q' e w) : wx n (Exit.then (y.wp P Q') Q) .normal e w := h
/-- A loop: s is what the rounds carry; E s its frame, H s its world; m goes down. -/
theorem wc_loop {σ : Type} {c : Code} (E : σ → Env) (H : σ → World → Prop) (m : σ → Nat) (s : σ) (hE : Sub e (E s)) (hH : H s w)
    (round : ∀ s w, H s w → wc P n c (Exit.then (fun a' w' => ∃ s', Fr n a' (E s') ∧ H s' w' ∧ m s' < m s) Q) (E s) w) : wc P n (.loop c) Q e w := by
  intro a hf b k cs
  have key : ∀ N s a w, m s = N → Fr n a (E s) → H s w → ∃ x a' w', Q x a' w' ∧ Arrives P (lone (b.at a (.code c :: .inLoop c :: k)) cs w) b k cs x a' w' := by
    intro N
    induction N using Nat.strongRecOn with
    | _ N ih =>
      intro s a w hN hfr hH
      obtain ⟨x, a1, w1, hq, harr⟩ := round s w hH a hfr b (.inLoop c :: k) cs
      cases x with
      | normal =>
        obtain ⟨s', hf', hH', hlt⟩ := hq
        obtain ⟨x2, a2, w2, hq2, harr2⟩ := ih (m s') (hN ▸ hlt) s' a1 w1 rfl hf' hH'
        exact ⟨x2, a2, w2, hq2, .of_steps (Steps.trans harr (.one step_inLoop)) harr2⟩
      | exit id => exact ⟨_, a1, w1, hq, .pass (x := .inLoop c) rfl (fun _ _ => .inl (by simp)) harr⟩
      | goto l => exact ⟨_, a1, w1, hq, .pass (x := .inLoop c) rfl (fun _ _ => .inl (by simp)) harr⟩
      | ret => exact ⟨_, a1, w1, hq, .pass (x := .inLoop c) rfl (fun _ _ => .inl (by simp)) harr⟩
      | panic ch => exact ⟨_, a1, w1, hq, .pass (x := .inLoop c) rfl (fun _ _ => .inl (by simp)) harr⟩
      | outgrown => exact ⟨_, a1, w1, hq, .pass (x := .inLoop c) rfl (fun _ _ => .inl (by simp)) harr⟩
  obtain ⟨x, a', w', hq, harr⟩ := key _ s a w rfl (hE n a hf) hH
  exact ⟨x, a', w', hq, .of_steps (.one step_loop) harr⟩
theorem wx_round {σ : Type} {E : σ → Env} {H : σ → World → Prop} {m : σ → Nat} {s : σ} (s' : σ) (hE : Sub e (E s')) (hH : H s' w) (hm : m s' < m s) :
    wx n (Exit.then (fun a' w' => ∃ s', Fr n a' (E s') ∧ H s' w' ∧ m s' < m s) Q) .normal e w := fun a hf => ⟨s', hE n a hf, hH, hm⟩
/-- A joint: what follows is shown once, from every s. -/
theorem wc_join {σ : Type} {c : Code} {K : Act → World → Prop} (E : σ → Env) (H : σ → World → Prop) (h : wc P n c (Exit.then (fun a' w' => ∃ s', Fr n a' (E s') ∧ H s' w') Q) e w) (k : ∀ s w a, H s w → Fr n a (E s) → K a w) : wc P n c (Exit.then K Q) e w :=
  wc_cut _ h fun a w ⟨s, hf, hH⟩ => k s w a hH hf
theorem wx_join {σ : Type} {E : σ → Env} {H : σ → World → Prop} (s' : σ) (hE : Sub e (E s')) (hH : H s' w) : wx n (Exit.then (fun a' w' => ∃ s', Fr n a' (E s') ∧ H s' w') Q) .normal e w := fun a hf => ⟨s', hE n a hf, hH⟩
/-- Two pieces of code, with a joint between them. -/
theorem wc_seqJ {σ : Type} {x y : Code} (E : σ → Env) (H : σ → World → Prop) (h : wc P n x (Exit.then (fun a' w' => ∃ s', Fr n a' (E s') ∧ H s' w') Q) e w) (k : ∀ s w, H s w → wc P n y Q (E s) w) : wc P n (.seq x y) Q e w :=
  wc_seq (wc_join E H h fun s w a hH hf => k s w hH a hf)
def argEnv : Nat → List Value → Env
  | _, [] => []
  | i, v :: l => (i, v) :: argEnv (i + 1) l
theorem argEnv_spec : ∀ (l : List Value) (k j : Nat), ehas (argEnv k l) j = true → ∃ i, j = k + i ∧ l[i]? = some (eget (argEnv k l) j)
  | [], _, _, h => by cases h
  | v :: l, k, j, h => by
    unfold argEnv ehas at h
    unfold argEnv eget
    cases hb : Nat.beq k j with
    | true =>
      obtain rfl := Nat.eq_of_beq_eq_true hb
      exact ⟨0, rfl, rfl⟩
    | false =>
      rw [hb] at h
      obtain ⟨i, h1, h2⟩ := argEnv_spec l (k + 1) j h
      exact ⟨i + 1, by omega, by simpa using h2⟩
theorem calls_wc {f : FuncId} {fn : Func} {c : Code} {args : List Value} {R : Ending → World → Prop} (hf : P.funcs[f]? = some fn) (hb : fn.body = some c) (hn : fn.ntmps = n) (hl : args.length ≤ n)
    (h : wc P n c (bodyPost P fn R) (argEnv 0 args) w) : Calls P f args.toArray w R := by
  refine calls_of_wp hf hb (h _ ⟨?_, rfl, fun i hi => ?_⟩)
  · simp [hn]; omega
  · obtain ⟨j, rfl, hj⟩ := argEnv_spec args 0 i hi
    rw [Nat.zero_add] at hj ⊢
    simp only [Array.getD_eq_getD_getElem?]
    rw [Array.getElem?_append_left (by simpa using (List.getElem?_eq_some_iff.1 hj).1)]
    simp [hj]
theorem wx_ret1 {fn : Func} {R : Ending → World → Prop} {t : Nat} {v : Value} (hr : fn.results = #[.tmp t]) (hk : ehas e t = true) (hv : eget e t = v) (h : R (.returned v) w) : wx n (bodyPost P fn R) .ret e w := fun a hf =>
  bodyPost_ret (v := v) (by rw [results_tmp hr, hf.at_ t hk, hv]) hf.defers h
theorem wx_ret2 {fn : Func} {R : Ending → World → Prop} {t u : Nat} {v v' : Value} (hr : fn.results = #[.tmp t, .tmp u]) (hk : ehas e t = true) (hv : eget e t = v) (hk' : ehas e u = true) (hv' : eget e u = v') (h : R (.returned (.tuple #[v, v'])) w) : wx n (bodyPost P fn R) .ret e w := fun a hf =>
  bodyPost_ret (v := .tuple #[v, v']) (by rw [results_tmp2 hr, hf.at_ t hk, hf.at_ u hk', hv, hv']) hf.defers h
end

/-! ### Operations -/
def plainOp : Op → Bool
  | .select _ _ => false
  | _ => true
def gOk (ops : Array Oper) (e : Env) (o : Oper) (b : Bool) : Bool :=
  match o.guard with
  | none => b
  | some (j, want) => match (ops[j]?).bind (·.dst) with
    | none => false
    | some t => match ehas e t with
      | false => false
      | true => match eget e t with
        | .bool c => match c, want with
          | true, true => b
          | false, false => b
          | _, _ => !b
        | .tuple _ => !b
        | _ => false
theorem gOk_wanted {ops : Array Oper} {e : Env} {o : Oper} {b : Bool} {n : Nat} {a : Act} (hf : Fr n a e) (h : gOk ops e o b = true) : Region.wanted o (yielded ops a.tmps) = b := by
  unfold gOk at h
  unfold Region.wanted
  cases hg : o.guard with
  | none => rw [hg] at h; simp only at h ⊢; exact h.symm
  | some p =>
    obtain ⟨j, want⟩ := p
    rw [hg] at h
    simp only at h ⊢
    cases ht : (ops[j]?).bind (·.dst) with
    | none => rw [ht] at h; cases h
    | some t =>
      rw [ht] at h
      simp only at h
      cases hh : ehas e t with
      | false => rw [hh] at h; cases h
      | true =>
        rw [hh] at h
        simp only at h
        have hv := hf.at_ t hh
        unfold yielded
        rw [ht]
        simp only [Option.bind_some]
        rw [Array.getD_eq_getD_getElem?] at hv
        cases ha : a.tmps[t]? with
        | none =>
          rw [ha] at hv
          simp only [Option.getD_none] at hv
          rw [← hv] at h
          cases b with
          | false => simp
          | true => cases h
        | some u =>
          rw [ha] at hv
          simp only [Option.getD_some] at hv
          subst hv
          revert h
          generalize eget e t = u
          intro h
          cases u with
          | bool c => cases c <;> cases want <;> cases b <;> simp_all
          | tuple c => cases b <;> simp_all
          | _ => exact absurd h (by simp)
/-- One look at an operation: its slot is d, all that it reads is known, its guard says b. -/
def chk (ops : Array Oper) (e : Env) (n : Nat) (o : Oper) (d : Nat) (b : Bool) : Bool :=
  match o.dst with
  | none => false
  | some d' => Nat.beq d' d && Nat.blt d n && (plainOp o.op && (gOk ops e o b && (match b with | true => eall e o.op.operands.toList | false => true)))
def chk0 (ops : Array Oper) (e : Env) (o : Oper) : Bool :=
  match o.dst with
  | some _ => false
  | none => plainOp o.op && (gOk ops e o true && eall e o.op.operands.toList)
section
variable {P : Program} {n : Nat} {Q : Exit → Act → World → Prop} {e e' : Env} {w : World} {ops : Array Oper} {o : Oper} {rest : List Oper}
theorem chk_spec {d : Nat} {b : Bool} (h : chk ops e n o d b = true) : o.dst = some d ∧ d < n ∧ plainOp o.op = true ∧ gOk ops e o b = true ∧ (b = true → eall e o.op.operands.toList = true) := by
  unfold chk at h
  split at h
  · cases h
  · rename_i d' hd
    simp only [Bool.and_eq_true] at h
    obtain ⟨⟨h1, h2⟩, h3, h4, h5⟩ := h
    obtain rfl := Nat.eq_of_beq_eq_true h1
    exact ⟨hd, by simpa using h2, h3, h4, fun hb => by subst hb; exact h5⟩
theorem chk0_spec (h : chk0 ops e o = true) : o.dst = none ∧ plainOp o.op = true ∧ gOk ops e o true = true ∧ eall e o.op.operands.toList = true := by
  unfold chk0 at h
  split at h
  · cases h
  · rename_i hd
    simp only [Bool.and_eq_true] at h
    exact ⟨hd, h.1, h.2.1, h.2.2⟩
/-- The operation yields v and leaves the world alone. -/
def OpV (P : Program) (e : Env) (w : World) (o : Oper) (v : Value) : Prop := (execOp (eev e) o).run P w = .ok (.value v) w
theorem exec_fr {a : Act} (hf : Fr n a e) (hs : plainOp o.op = true) (hk : eall e o.op.operands.toList = true) : execOp a.eval o = execOp (eev e) o :=
  execOp_congr o (fun cs b h => by rw [h] at hs; cases hs) fun x hx => hf.eval x (eall_mem hk x (Array.mem_toList_iff.2 hx))
theorem wl_nil (h : wx n Q .normal e w) : wl P n ops Q [] e w := fun a hf => wpList_nil (h a hf)
/-- Any operation that runs to a value in another world. -/
theorem wl_run (d : Nat) {v : Value} {w' : World} (hc : chk ops e n o d true = true)
    (hv : (execOp (eev e) o).run P w = .ok (.value v) w') (next : wl P n ops Q rest ((d, v) :: e) w') : wl P n ops Q (o :: rest) e w := fun a hf => by
  obtain ⟨hd, hn, hs, hg, hk⟩ := chk_spec hc
  refine wpList_step fun K hK => ?_
  rw [if_pos (gOk_wanted hf hg)]
  unfold Oper.wp
  rw [exec_fr hf hs (hk rfl), hv]
  simp only [Oper.upon]
  rw [hd]
  exact hK _ _ (next _ (hf.put hn v))
theorem wl_new (d : Nat) {v : Value} {w' : World} (hc : chk ops e n o d true = true)
    (hv : (execOp (eev e) o).run P w = .ok (.value v) w') (next : ∀ w1, w1 = w' → wl P n ops Q rest ((d, v) :: e) w1) : wl P n ops Q (o :: rest) e w := wl_run d hc hv (next _ rfl)
theorem wl_val (d : Nat) {v : Value} (hc : chk ops e n o d true = true) (hv : OpV P e w o v) (next : wl P n ops Q rest ((d, v) :: e) w) : wl P n ops Q (o :: rest) e w := wl_run d hc hv next
theorem wl_dec (d : Nat) {φ : Prop} [Decidable φ] (hc : chk ops e n o d true = true) (hv : OpV P e w o (.bool (decide φ))) (ht : φ → wl P n ops Q rest ((d, .bool true) :: e) w) (hf : ¬ φ → wl P n ops Q rest ((d, .bool false) :: e) w) : wl P n ops Q (o :: rest) e w := by
  by_cases h : φ
  · rw [decide_eq_true h] at hv; exact wl_val d hc hv (ht h)
  · rw [decide_eq_false h] at hv; exact wl_val d hc hv (hf h)
theorem wl_bool (d : Nat) {b : Bool} (hc : chk ops e n o d true = true) (hv : OpV P e w o (.bool b)) (ht : b = true → wl P n ops Q rest ((d, .bool true) :: e) w) (hf : b = false → wl P n ops Q rest ((d, .bool false) :: e) w) : wl P n ops Q (o :: rest) e w := by
  cases b
  · exact wl_val d hc hv (hf rfl)
  · exact wl_val d hc hv (ht rfl)
theorem wl_skip (d : Nat) (hc : chk ops e n o d false = true)
    (next : wl P n ops Q rest ((d, undef) :: e) w) : wl P n ops Q (o :: rest) e w := fun a hf => by
  obtain ⟨hd, hn, hs, hg, hk⟩ := chk_spec hc
  refine wpList_step fun K hK => ?_
  rw [if_neg (by rw [gOk_wanted hf hg]; decide), hd]
  exact hK _ _ (next _ (hf.put hn undef))
/-- A store: no slot. -/
theorem wl_do {w' : World} (hc : chk0 ops e o = true) (hv : (execOp (eev e) o).run P w = .ok .skip w') (next : wl P n ops Q rest e w') : wl P n ops Q (o :: rest) e w := fun a hf => by
  obtain ⟨hd, hs, hg, hk⟩ := chk0_spec hc
  refine wpList_step fun K hK => ?_
  rw [if_pos (gOk_wanted hf hg)]
  unfold Oper.wp
  rw [exec_fr hf hs hk, hv]
  simp only [Oper.upon]
  rw [hd]
  exact hK _ _ (next _ (hf.put_none undef))
/-- A call: every ending that R lets is a return. -/
theorem wl_call (d : Nat) {f : FuncId} {args : Array Value} {R : Ending → World → Prop} (hc : chk ops e n o d true = true)
    (hv : (execOp (eev e) o).run P w = .ok (.enter f args) w) (hR : Calls P f args w R) (next : ∀ x w', R x w' → ∃ v, x = .returned v ∧ wl P n ops Q rest ((d, v) :: e) w') : wl P n ops Q (o :: rest) e w := fun a hf => by
  obtain ⟨hd, hn, hs, hg, hk⟩ := chk_spec hc
  refine wpList_step fun K hK => ?_
  rw [if_pos (gOk_wanted hf hg)]
  unfold Oper.wp
  rw [exec_fr hf hs (hk rfl), hv]
  simp only [Oper.upon]
  refine hR.mono fun x w' hR => ?_
  obtain ⟨v, rfl, h⟩ := next x w' hR
  simp only
  rw [hd]
  exact hK _ _ (h _ (hf.put hn v))
/-- The region's operations from a law of the kit on wpList. -/
theorem wl_law (h : ∀ a, Fr n a e → wpList P ops Q (o :: rest) a w) : wl P n ops Q (o :: rest) e w := h
end

/-! ### Cuts behind a region -/
/-- Of the first k entries of e, each is among the slots L or is not known behind them. -/
def dropOk (L : List Nat) : Nat → Env → Env → Bool
  | 0, _, _ => true
  | _ + 1, _, [] => true
  | k + 1, b, (i, _) :: e => (L.any (Nat.beq i) || !ehas b i) && dropOk L k b e
def eqs (e : Env) : List (Nat × Value) → Prop
  | [] => True
  | (i, v) :: l => eget e i = v ∧ eqs e l
def allHas (e : Env) : List (Nat × Value) → Bool
  | [] => true
  | (i, _) :: l => ehas e i && allHas e l
theorem drop_get (L : List Nat) : ∀ (k : Nat) (b e : Env), dropOk L k b e = true → e.drop k = b → ∀ i, L.any (Nat.beq i) = false → ehas b i = true → ehas e i = true ∧ eget e i = eget b i
  | 0, b, e, _, he, i, _, hb => by rw [List.drop_zero] at he; subst he; exact ⟨hb, rfl⟩
  | k + 1, b, [], _, he, i, _, hb => by rw [List.drop_nil] at he; subst he; exact ⟨hb, rfl⟩
  | k + 1, b, (j, v) :: e, hd, he, i, hL, hb => by
    unfold dropOk at hd
    simp only [Bool.and_eq_true, Bool.or_eq_true, Bool.not_eq_true'] at hd
    rw [List.drop_succ_cons] at he
    obtain ⟨h1, h2⟩ := drop_get L k b e hd.2 he i hL hb
    have hne : Nat.beq j i = false := by
      cases hj : Nat.beq j i with
      | false => rfl
      | true =>
        obtain rfl := Nat.eq_of_beq_eq_true hj
        rcases hd.1 with h | h
        · rw [h] at hL; cases hL
        · rw [h] at hb; cases hb
    rw [ehas_miss hne, eget_miss hne]
    exact ⟨h1, h2⟩
theorem has_append (O b : Env) (i : Nat) (h : ehas (O ++ b) i = true) : ((O.map (·.1)).any (Nat.beq i) = true ∧ ehas O i = true ∧ eget (O ++ b) i = eget O i) ∨ ((O.map (·.1)).any (Nat.beq i) = false ∧ ehas b i = true ∧ eget (O ++ b) i = eget b i) := by
  induction O with
  | nil => exact .inr ⟨rfl, h, rfl⟩
  | cons p O ih =>
    obtain ⟨j, v⟩ := p
    rw [List.cons_append] at h
    simp only [List.map_cons, List.any_cons, List.cons_append]
    cases hj : Nat.beq j i with
    | true =>
      obtain rfl := Nat.eq_of_beq_eq_true hj
      exact .inl ⟨by rw [Nat.beq_refl]; rfl, ehas_hit _ _ _, by rw [eget_hit, eget_hit]⟩
    | false =>
      rw [ehas_miss hj] at h
      rw [ehas_miss hj, eget_miss hj, eget_miss hj]
      have hij : Nat.beq i j = false := by
        cases h2 : Nat.beq i j with
        | false => rfl
        | true => obtain rfl := Nat.eq_of_beq_eq_true h2; rw [Nat.beq_refl] at hj; cases hj
      rcases ih h with ⟨a, b, c⟩ | ⟨a, b, c⟩
      · exact .inl ⟨by rw [hij, a]; rfl, b, c⟩
      · exact .inr ⟨by rw [hij, a]; rfl, b, c⟩
theorem eqs_get {e : Env} : ∀ {O : Env}, allHas e O = true → eqs e O → ∀ i, ehas O i = true → ehas e i = true ∧ eget e i = eget O i
  | [], _, _, i, h => by cases h
  | (j, v) :: O, ha, he, i, h => by
    unfold allHas at ha
    simp only [Bool.and_eq_true] at ha
    cases hj : Nat.beq j i with
    | true =>
      obtain rfl := Nat.eq_of_beq_eq_true hj
      rw [eget_hit]
      exact ⟨ha.1, he.1⟩
    | false =>
      rw [ehas_miss hj] at h
      rw [eget_miss hj]
      exact eqs_get ha.2 he.2 i h
/-- Behind k new entries: the slots O hold what they say, all else is as in b. -/
theorem sub_out {e b : Env} (k : Nat) (O : Env) (hb : e.drop k = b) (h1 : (dropOk (O.map (·.1)) k b e && allHas e O) = true) (h2 : eqs e O) : Sub e (O ++ b) := fun n a hf => by
  simp only [Bool.and_eq_true] at h1
  refine ⟨hf.size, hf.defers, fun i hi => ?_⟩
  rcases has_append O b i hi with ⟨_, h3, h4⟩ | ⟨h5, h3, h4⟩
  · obtain ⟨h6, h7⟩ := eqs_get h1.2 h2 i h3
    rw [h4, ← h7]; exact hf.at_ i h6
  · obtain ⟨h6, h7⟩ := drop_get _ k b e h1.1 hb i h5 h3
    rw [h4, ← h7]; exact hf.at_ i h6
def PostE (n : Nat) (e : Env) (w : World) : Exit → Act → World → Prop := fun x a w' => x = .normal ∧ w' = w ∧ Fr n a e
def PostS {σ : Type} (n : Nat) (E : σ → Env) (H : σ → World → Prop) : Exit → Act → World → Prop := fun x a w' => x = .normal ∧ ∃ s, Fr n a (E s) ∧ H s w'
section
variable {P : Program} {n : Nat} {Q : Exit → Act → World → Prop} {e e' : Env} {w : World} {ops : Array Oper} {o : Oper} {rest : List Oper} {K : Act → World → Prop} {id : Nat} {l : List Oper}
theorem leaf_e (h : Sub e e') : wl P n ops (PostE n e' w) [] e w := wl_nil fun a hf => ⟨rfl, rfl, h n a hf⟩
theorem leaf_s {σ : Type} {E : σ → Env} {H : σ → World → Prop} (s : σ) (h : Sub e (E s)) (hH : H s w) : wl P n ops (PostS n E H) [] e w := wl_nil fun a hf => ⟨rfl, s, h n a hf, hH⟩
/-- A region that leaves the world alone, its ways met behind it. -/
theorem wc_cutE (O : Env) (h : wl P n l.toArray (PostE n (O ++ e) w) l e w) (k : wx n (Exit.then K Q) .normal (O ++ e) w) : wc P n (.region id l.toArray false) (Exit.then K Q) e w := fun a hf =>
  Code.wp_mono (fun x a w' ⟨hx, hw, hfr⟩ => by subst hx hw; exact k a hfr) (wp_region_lit (h a hf))
theorem wc_cutS {σ : Type} (O : σ → Env) (H : σ → World → Prop) (h : wl P n l.toArray (PostS n (fun s => O s ++ e) H) l e w) (k : ∀ s w', H s w' → wx n (Exit.then K Q) .normal (O s ++ e) w') : wc P n (.region id l.toArray false) (Exit.then K Q) e w := fun a hf =>
  Code.wp_mono (fun x a w' ⟨hx, s, hfr, hH⟩ => by subst hx; exact k s w' hH a hfr) (wp_region_lit (h a hf))
end

/-! ### Regions that draw their order: one value in every world of the class C -/
def wq (P : Program) (n : Nat) (ops : Array Oper) (C : World → Prop) (K : Act → Prop) (l : List Oper) (e : Env) : Prop := ∀ a, Fr n a e → wpQuiet P ops C K l a
/-- w' is w after some draws. -/
def Dr (w w' : World) : Prop := ∃ m, w' = w.drewN m
theorem Dr.cell {w w' : World} (h : Dr w w') (p : Addr) : w'.cell? p = w.cell? p := by obtain ⟨m, rfl⟩ := h; rfl
theorem Dr.refl (w : World) : Dr w w := ⟨0, rfl⟩
theorem Dr.one (w : World) : Dr w w.drew := ⟨1, rfl⟩
theorem Dr.heap {w w' : World} (h : Dr w w') : w'.heap = w.heap := by obtain ⟨m, rfl⟩ := h; rfl
theorem wpQuiet_mono {P : Program} {ops : Array Oper} {C : World → Prop} {K K' : Act → Prop} : ∀ {l : List Oper} {a : Act}, wpQuiet P ops C K l a → (∀ a, K a → K' a) → wpQuiet P ops C K' l a
  | [], _, h, k => k _ h
  | o :: rest, a, h, k => by
    unfold wpQuiet at h ⊢
    split
    · rename_i hw
      rw [if_pos hw] at h
      exact Oper.quiet_mono (fun a h => wpQuiet_mono h k) h
    · rename_i hw
      rw [if_neg hw] at h
      exact wpQuiet_mono h k
section
variable {P : Program} {n : Nat} {Q : Exit → Act → World → Prop} {e e' : Env} {w : World} {ops : Array Oper} {o : Oper} {rest : List Oper} {C : World → Prop} {K : Act → Prop}
theorem wq_nil (h : ∀ a, Fr n a e → K a) : wq P n ops C K [] e := fun a hf => wpQuiet_nil (h a hf)
theorem wq_val (d : Nat) {v : Value} (hc : chk ops e n o d true = true) (hv : ∀ w, C w → OpV P e w o v) (next : wq P n ops C K rest ((d, v) :: e)) : wq P n ops C K (o :: rest) e := fun a hf => by
  obtain ⟨hd, hn, hs, hg, hk⟩ := chk_spec hc
  refine wpQuiet_step fun K' hK => ?_
  rw [if_pos (gOk_wanted hf hg)]
  refine ⟨v, fun w hw => ?_, hK _ (by rw [hd]; exact next _ (hf.put hn v))⟩
  unfold Oper.quietAt
  rw [exec_fr hf hs (hk rfl), hv w hw]
  exact ⟨rfl, rfl⟩
theorem wq_dec (d : Nat) {φ : Prop} [Decidable φ] (hc : chk ops e n o d true = true) (hv : ∀ w, C w → OpV P e w o (.bool (decide φ))) (ht : φ → wq P n ops C K rest ((d, .bool true) :: e)) (hf : ¬ φ → wq P n ops C K rest ((d, .bool false) :: e)) : wq P n ops C K (o :: rest) e := by
  by_cases h : φ
  · rw [decide_eq_true h] at hv; exact wq_val d hc hv (ht h)
  · rw [decide_eq_false h] at hv; exact wq_val d hc hv (hf h)
theorem wq_bool (d : Nat) {b : Bool} (hc : chk ops e n o d true = true) (hv : ∀ w, C w → OpV P e w o (.bool b)) (ht : b = true → wq P n ops C K rest ((d, .bool true) :: e)) (hf : b = false → wq P n ops C K rest ((d, .bool false) :: e)) : wq P n ops C K (o :: rest) e := by
  cases b
  · exact wq_val d hc hv (hf rfl)
  · exact wq_val d hc hv (ht rfl)
theorem wq_skip (d : Nat) (hc : chk ops e n o d false = true) (next : wq P n ops C K rest ((d, undef) :: e)) : wq P n ops C K (o :: rest) e := fun a hf => by
  obtain ⟨hd, hn, hs, hg, hk⟩ := chk_spec hc
  refine wpQuiet_step fun K' hK => ?_
  rw [if_neg (by rw [gOk_wanted hf hg]; decide), hd]
  exact hK _ (next _ (hf.put hn undef))
/-- A call that returns v in every world of the class and leaves one of it. -/
theorem wq_call (d : Nat) {v : Value} {f : FuncId} {args : Array Value} (hc : chk ops e n o d true = true) (hv : ∀ w, C w → (execOp (eev e) o).run P w = .ok (.enter f args) w)
    (hR : ∀ w, C w → Calls P f args w fun x w' => x = .returned v ∧ C w') (next : wq P n ops C K rest ((d, v) :: e)) : wq P n ops C K (o :: rest) e := fun a hf => by
  obtain ⟨hd, hn, hs, hg, hk⟩ := chk_spec hc
  refine wpQuiet_step fun K' hK => ?_
  rw [if_pos (gOk_wanted hf hg)]
  refine ⟨v, fun w hw => ?_, hK _ (by rw [hd]; exact next _ (hf.put hn v))⟩
  unfold Oper.quietAt
  rw [exec_fr hf hs (hk rfl), hv w hw]
  exact ⟨rfl, hR w hw⟩
theorem wq_callb (d : Nat) {b : Bool} {f : FuncId} {args : Array Value} (hc : chk ops e n o d true = true) (hv : ∀ w, C w → (execOp (eev e) o).run P w = .ok (.enter f args) w)
    (hR : ∀ w, C w → Calls P f args w fun x w' => x = .returned (.bool b) ∧ C w') (ht : b = true → wq P n ops C K rest ((d, .bool true) :: e)) (hf : b = false → wq P n ops C K rest ((d, .bool false) :: e)) : wq P n ops C K (o :: rest) e := by
  cases b
  · exact wq_call d hc hv hR (hf rfl)
  · exact wq_call d hc hv hR (ht rfl)
theorem leaf_q (h : Sub e e') : wq P n ops C (fun a => Fr n a e') [] e := wq_nil fun a hf => h n a hf
theorem wc_drawn {id : Nat} {l : List Oper} {K' : Act → World → Prop} (C : World → Prop) (O : Env) (hm : P.follows .mixedOrders = true) (hB : Region.lexB .any l.toArray = true) (hC : C w.drew)
    (h : wq P n l.toArray C (fun a => Fr n a (O ++ e)) l e) (k : ∀ w', C w' → wx n (Exit.then K' Q) .normal (O ++ e) w') : wc P n (.region id l.toArray true) (Exit.then K' Q) e w := fun a hf =>
  wp_region_quiet (C := C) hm hB hC (by
    have := h a hf
    have e1 : wpQuiet P l.toArray C (fun a => Fr n a (O ++ e)) l.toArray.toList a := by simpa using this
    exact wpQuiet_mono e1 fun a' hf' w' hw' => k w' hw' a' hf')
end
end Go.Proofs.YtpbgfdmkebnjgaaGreatDoor
