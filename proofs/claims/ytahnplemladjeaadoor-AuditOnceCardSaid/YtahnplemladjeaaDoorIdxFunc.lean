/- slices.IndexFunc, for any test that is given by its contract. -/
import Derived.Test.YtahnplemladjeaaDoorOpsB
namespace Go.Proofs.YtahnplemladjeaaDoor
open Go.RowKit

/-- The first place where p holds, or -1. -/
def idxI {α : Type} (p : α → Bool) (l : List α) : Int := if l.any p then (l.findIdx p : Nat) else -1
theorem fi_at {α : Type} {p : α → Bool} {l : List α} {k : Nat} {x : α} (h : k ≤ l.findIdx p) (hx : l[k]? = some x) (hp : p x = true) : l.findIdx p = k := by
  apply Nat.le_antisymm _ h
  apply Nat.le_of_not_lt
  intro hlt
  obtain ⟨hk, rfl⟩ := List.getElem?_eq_some_iff.1 hx
  have := List.not_of_lt_findIdx hlt
  rw [hp] at this; cases this
theorem fi_past {α : Type} {p : α → Bool} {l : List α} {k : Nat} {x : α} (h : k ≤ l.findIdx p) (hx : l[k]? = some x) (hp : p x = false) : k + 1 ≤ l.findIdx p := by
  apply Nat.succ_le_of_lt
  apply Nat.lt_of_le_of_ne h
  intro e
  obtain ⟨hk, rfl⟩ := List.getElem?_eq_some_iff.1 hx
  have hl : l.findIdx p < l.length := by omega
  have h1 := List.findIdx_getElem (w := hl)
  have h2 : l[l.findIdx p] = l[k] := by congr 1; exact e.symm
  rw [h2, hp] at h1; cases h1
theorem idxI_at {α : Type} {p : α → Bool} {l : List α} {k : Nat} {x : α} (h : k ≤ l.findIdx p) (hx : l[k]? = some x) (hp : p x = true) : idxI p l = k := by
  unfold idxI
  rw [if_pos (List.any_eq_true.2 ⟨x, List.mem_of_getElem? hx, hp⟩), fi_at h hx hp]
theorem idxI_none {α : Type} {p : α → Bool} {l : List α} (h : l.length ≤ l.findIdx p) : idxI p l = -1 := by
  unfold idxI
  rw [if_neg]
  intro ha
  obtain ⟨x, hx, hp⟩ := List.any_eq_true.1 ha
  have := List.findIdx_lt_length_of_exists ⟨x, hx, hp⟩
  omega
theorem idxI_some {α : Type} {p : α → Bool} {l : List α} {k : Nat} {x : α} (hx : l[k]? = some x) (hp : p x = true) : idxI p l = (l.findIdx p : Nat) ∧ l.findIdx p ≤ k := by
  refine ⟨?_, ?_⟩
  · unfold idxI; rw [if_pos (List.any_eq_true.2 ⟨x, List.mem_of_getElem? hx, hp⟩)]
  · apply Nat.le_of_not_lt
    intro hlt
    obtain ⟨hk, rfl⟩ := List.getElem?_eq_some_iff.1 hx
    have := List.not_of_lt_findIdx hlt
    rw [hp] at this; cases this
set_option maxRecDepth 10000 in
theorem idxPosting {α : Type} {R : α → List Value → Prop} (p : α → Bool) (F : FuncId) (cap : List Value) (A : Option Addr) (c : Nat) (l : List α) (w : World) (hok : callOk Tryd.prog F = true) (hL : Rd w w.heap.size 3 R A l)
    (hF : ∀ x cs w', x ∈ l → R x cs → Below w.heap.size w w' → Calls Tryd.prog F (.agg cs.toArray :: cap).toArray w' fun e w'' => e = .returned (.bool (p x)) ∧ Below w'.heap.size w' w'') :
    Calls Tryd.prog 40 #[.slice A l.length c, .func (.func F) #[] cap.toArray] w fun e w' => e = .returned (.int .i64 (idxI p l)) ∧ Below w.heap.size w w' := by
  have hlen := hL.1
  refine calls_wc (n := 19) Tryd.func40 rfl rfl (Nat.le_of_ble_eq_true rfl) ?_
  refine wc_seq ?_
  refine wc_region ?_
  refine wl_val 4 (by kernel_rfl) ((op_assign (v := .int .i64 _) rfl)) ?_
  refine wl_nil ?_
  refine wx_next ?_
  refine wc_seq ?_
  refine wc_seq ?_
  refine wc_region ?_
  refine wl_val 6 (by kernel_rfl) ((op_move (v := .slice _ _ _) rfl)) ?_
  refine wl_val 7 (by kernel_rfl) ((op_len rfl (by kernel_rfl))) ?_
  refine wl_val 8 (by kernel_rfl) ((op_move (v := .int .i64 _) rfl)) ?_
  refine wl_nil ?_
  refine wx_next ?_
  refine wc_block ?_
  refine wc_loop (σ := Nat) (fun k => [(0, .slice A l.length c), (1, .func (.func F) #[] cap.toArray), (6, .slice A l.length c), (7, .int .i64 l.length), (8, .int .i64 k)]) (fun k wr => k ≤ l.length ∧ k ≤ l.findIdx p ∧ Below w.heap.size w wr) (fun k => l.length - k) 0 ?_ ?_ ?_
  · exact (sub_cons (by kernel_rfl) rfl (sub_cons (by kernel_rfl) rfl (sub_cons (by kernel_rfl) rfl (sub_cons (by kernel_rfl) rfl (sub_cons (by kernel_rfl) rfl sub_nil)))))
  · exact ⟨Nat.zero_le _, Nat.zero_le _, Below.refl _ _⟩
  intro k w1 hs
  obtain ⟨hk, hfi, hb1⟩ := hs
  refine wc_seq ?_
  refine wc_region ?_
  refine wl_val 9 (by kernel_rfl) ((op_lss rfl rfl)) ?_
  refine wl_nil ?_
  refine wx_next ?_
  refine wc_seq ?_
  refine wc_cond (by kernel_rfl) rfl (fun h1 => ?_) (fun h1 => ?_)
  · skip
    have hlt : k < l.length := by simpa using h1
    obtain ⟨x, hx⟩ := get_of_lt hlt
    obtain ⟨b, off, rfl, _, cs, hcl, hR, hrow⟩ := (hL.below hb1).at_ hx
    refine wc_skip ?_
    refine wx_next ?_
    refine wc_seq ?_
    refine wc_block ?_
    refine wc_seq ?_
    refine wc_region ?_
    refine wl_val 10 (by kernel_rfl) ((op_move (v := .int .i64 _) rfl)) ?_
    refine wl_val 5 (by kernel_rfl) ((op_assign (v := .int .i64 _) rfl)) ?_
    refine wl_nil ?_
    refine wx_next ?_
    refine wc_seq ?_
    refine wc_region ?_
    refine wl_val 11 (by kernel_rfl) ((op_move (v := .func _ _ _) rfl)) ?_
    refine wl_val 12 (by kernel_rfl) ((op_move (v := .slice _ _ _) rfl)) ?_
    refine wl_val 13 (by kernel_rfl) ((op_move (v := .int .i64 _) rfl)) ?_
    refine wl_val 14 (by kernel_rfl) ((op_index (sz := 3) rfl rfl (by kernel_rfl) (by omega))) ?_
    refine wl_val 15 (by kernel_rfl) ((op_loadR cs rfl (by rw [hcl]; kernel_rfl) hrow)) ?_
    refine wl_call 16 (by kernel_rfl) (op_callv rfl hok) (hF x cs _ (List.mem_of_getElem? hx) hR hb1) ?_
    rintro e w2 ⟨rfl, hb2a⟩
    have hb2 := hb1.trans (hb2a.mono hb1.size)
    refine ⟨_, rfl, ?_⟩
    refine wl_nil ?_
    refine wx_next ?_
    refine wc_cond (by kernel_rfl) rfl (fun h2 => ?_) (fun h2 => ?_)
    · skip
      have hp := h2
      refine wc_seq ?_
      refine wc_region ?_
      refine wl_val 17 (by kernel_rfl) ((op_move (v := .int .i64 _) rfl)) ?_
      refine wl_val 4 (by kernel_rfl) ((op_assign (v := .int .i64 _) rfl)) ?_
      refine wl_nil ?_
      refine wx_next ?_
      refine wc_ret ?_
      refine wx_inR ?_
      refine wx_thenR ?_
      refine wx_thenR ?_
      refine wx_inR ?_
      refine wx_thenR ?_
      refine wx_ret1 rfl (by kernel_rfl) (show _ = .int .i64 _ from rfl) ?_
      first | exact ⟨ret_int (idxI_at hfi hx hp).symm, hb2⟩ | exact ⟨ret_int hnone.symm, hb1⟩
    · skip
      have hp := h2
      refine wc_skip ?_
      refine wx_inN ?_
      refine wx_next ?_
      refine wc_region ?_
      refine wl_val 18 (by kernel_rfl) ((op_add rfl rfl (by omega))) ?_
      refine wl_val 8 (by kernel_rfl) ((op_move (v := .int .i64 _) rfl)) ?_
      refine wl_nil ?_
      refine wx_round (k + 1) (sub_cons (by kernel_rfl) rfl (sub_cons (by kernel_rfl) rfl (sub_cons (by kernel_rfl) rfl (sub_cons (by kernel_rfl) rfl (sub_cons (by kernel_rfl) rfl sub_nil))))) ⟨hlt, fi_past hfi hx hp, hb2⟩ (by omega)
  · skip
    have hge : l.length ≤ k := by have := of_decide_eq_false h1; omega
    have hnone := idxI_none (p := p) (l := l) (by omega)
    refine wc_exit ?_
    refine wx_thenE ?_
    refine wx_thenE ?_
    refine wx_here ?_
    refine wx_next ?_
    refine wc_seq ?_
    refine wc_region ?_
    refine wl_val 4 (by kernel_rfl) ((op_assign (v := .int .i64 _) rfl)) ?_
    refine wl_nil ?_
    refine wx_next ?_
    refine wc_ret ?_
    refine wx_ret1 rfl (by kernel_rfl) (show _ = .int .i64 _ from rfl) ?_
    first | exact ⟨ret_int (idxI_at hfi hx hp).symm, hb2⟩ | exact ⟨ret_int hnone.symm, hb1⟩
set_option maxRecDepth 10000 in
theorem idxPayout {α : Type} {R : α → List Value → Prop} (p : α → Bool) (F : FuncId) (cap : List Value) (A : Option Addr) (c : Nat) (l : List α) (w : World) (hok : callOk Tryd.prog F = true) (hL : Rd w w.heap.size 7 R A l)
    (hF : ∀ x cs w', x ∈ l → R x cs → Below w.heap.size w w' → Calls Tryd.prog F (.agg cs.toArray :: cap).toArray w' fun e w'' => e = .returned (.bool (p x)) ∧ Below w'.heap.size w' w'') :
    Calls Tryd.prog 35 #[.slice A l.length c, .func (.func F) #[] cap.toArray] w fun e w' => e = .returned (.int .i64 (idxI p l)) ∧ Below w.heap.size w w' := by
  have hlen := hL.1
  refine calls_wc (n := 19) Tryd.func35 rfl rfl (Nat.le_of_ble_eq_true rfl) ?_
  refine wc_seq ?_
  refine wc_region ?_
  refine wl_val 4 (by kernel_rfl) ((op_assign (v := .int .i64 _) rfl)) ?_
  refine wl_nil ?_
  refine wx_next ?_
  refine wc_seq ?_
  refine wc_seq ?_
  refine wc_region ?_
  refine wl_val 6 (by kernel_rfl) ((op_move (v := .slice _ _ _) rfl)) ?_
  refine wl_val 7 (by kernel_rfl) ((op_len rfl (by kernel_rfl))) ?_
  refine wl_val 8 (by kernel_rfl) ((op_move (v := .int .i64 _) rfl)) ?_
  refine wl_nil ?_
  refine wx_next ?_
  refine wc_block ?_
  refine wc_loop (σ := Nat) (fun k => [(0, .slice A l.length c), (1, .func (.func F) #[] cap.toArray), (6, .slice A l.length c), (7, .int .i64 l.length), (8, .int .i64 k)]) (fun k wr => k ≤ l.length ∧ k ≤ l.findIdx p ∧ Below w.heap.size w wr) (fun k => l.length - k) 0 ?_ ?_ ?_
  · exact (sub_cons (by kernel_rfl) rfl (sub_cons (by kernel_rfl) rfl (sub_cons (by kernel_rfl) rfl (sub_cons (by kernel_rfl) rfl (sub_cons (by kernel_rfl) rfl sub_nil)))))
  · exact ⟨Nat.zero_le _, Nat.zero_le _, Below.refl _ _⟩
  intro k w1 hs
  obtain ⟨hk, hfi, hb1⟩ := hs
  refine wc_seq ?_
  refine wc_region ?_
  refine wl_val 9 (by kernel_rfl) ((op_lss rfl rfl)) ?_
  refine wl_nil ?_
  refine wx_next ?_
  refine wc_seq ?_
  refine wc_cond (by kernel_rfl) rfl (fun h1 => ?_) (fun h1 => ?_)
  · skip
    have hlt : k < l.length := by simpa using h1
    obtain ⟨x, hx⟩ := get_of_lt hlt
    obtain ⟨b, off, rfl, _, cs, hcl, hR, hrow⟩ := (hL.below hb1).at_ hx
    refine wc_skip ?_
    refine wx_next ?_
    refine wc_seq ?_
    refine wc_block ?_
    refine wc_seq ?_
    refine wc_region ?_
    refine wl_val 10 (by kernel_rfl) ((op_move (v := .int .i64 _) rfl)) ?_
    refine wl_val 5 (by kernel_rfl) ((op_assign (v := .int .i64 _) rfl)) ?_
    refine wl_nil ?_
    refine wx_next ?_
    refine wc_seq ?_
    refine wc_region ?_
    refine wl_val 11 (by kernel_rfl) ((op_move (v := .func _ _ _) rfl)) ?_
    refine wl_val 12 (by kernel_rfl) ((op_move (v := .slice _ _ _) rfl)) ?_
    refine wl_val 13 (by kernel_rfl) ((op_move (v := .int .i64 _) rfl)) ?_
    refine wl_val 14 (by kernel_rfl) ((op_index (sz := 7) rfl rfl (by kernel_rfl) (by omega))) ?_
    refine wl_val 15 (by kernel_rfl) ((op_loadR cs rfl (by rw [hcl]; kernel_rfl) hrow)) ?_
    refine wl_call 16 (by kernel_rfl) (op_callv rfl hok) (hF x cs _ (List.mem_of_getElem? hx) hR hb1) ?_
    rintro e w2 ⟨rfl, hb2a⟩
    have hb2 := hb1.trans (hb2a.mono hb1.size)
    refine ⟨_, rfl, ?_⟩
    refine wl_nil ?_
    refine wx_next ?_
    refine wc_cond (by kernel_rfl) rfl (fun h2 => ?_) (fun h2 => ?_)
    · skip
      have hp := h2
      refine wc_seq ?_
      refine wc_region ?_
      refine wl_val 17 (by kernel_rfl) ((op_move (v := .int .i64 _) rfl)) ?_
      refine wl_val 4 (by kernel_rfl) ((op_assign (v := .int .i64 _) rfl)) ?_
      refine wl_nil ?_
      refine wx_next ?_
      refine wc_ret ?_
      refine wx_inR ?_
      refine wx_thenR ?_
      refine wx_thenR ?_
      refine wx_inR ?_
      refine wx_thenR ?_
      refine wx_ret1 rfl (by kernel_rfl) (show _ = .int .i64 _ from rfl) ?_
      first | exact ⟨ret_int (idxI_at hfi hx hp).symm, hb2⟩ | exact ⟨ret_int hnone.symm, hb1⟩
    · skip
      have hp := h2
      refine wc_skip ?_
      refine wx_inN ?_
      refine wx_next ?_
      refine wc_region ?_
      refine wl_val 18 (by kernel_rfl) ((op_add rfl rfl (by omega))) ?_
      refine wl_val 8 (by kernel_rfl) ((op_move (v := .int .i64 _) rfl)) ?_
      refine wl_nil ?_
      refine wx_round (k + 1) (sub_cons (by kernel_rfl) rfl (sub_cons (by kernel_rfl) rfl (sub_cons (by kernel_rfl) rfl (sub_cons (by kernel_rfl) rfl (sub_cons (by kernel_rfl) rfl sub_nil))))) ⟨hlt, fi_past hfi hx hp, hb2⟩ (by omega)
  · skip
    have hge : l.length ≤ k := by have := of_decide_eq_false h1; omega
    have hnone := idxI_none (p := p) (l := l) (by omega)
    refine wc_exit ?_
    refine wx_thenE ?_
    refine wx_thenE ?_
    refine wx_here ?_
    refine wx_next ?_
    refine wc_seq ?_
    refine wc_region ?_
    refine wl_val 4 (by kernel_rfl) ((op_assign (v := .int .i64 _) rfl)) ?_
    refine wl_nil ?_
    refine wx_next ?_
    refine wc_ret ?_
    refine wx_ret1 rfl (by kernel_rfl) (show _ = .int .i64 _ from rfl) ?_
    first | exact ⟨ret_int (idxI_at hfi hx hp).symm, hb2⟩ | exact ⟨ret_int hnone.symm, hb1⟩
end Go.Proofs.YtahnplemladjeaaDoor
