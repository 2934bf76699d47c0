/- Proved: for every input, recyclinglaw51.AuctionHolds returns true and its arguments read as before. No condition. -/
import Derived.Test.YtimmifkdocjljaaAucP6
import Derived.Test.YtimmifkdocjljaaAucOpen
namespace Go.Proofs.Ytimmifkdocjljaa.auctionHolds
open Go.ChangeShapes Go.WideShapes Go.ChangeAt Go.RowKit Go.Deep

set_option maxRecDepth 100000 in
theorem contract (H : Type) (enc : TypeId × Value → H) (W : World) (base : Nat) (args : Array Value) (ds gs : List (DataW H)) (before : List MemPlace)
    (hval : ∀ (j : Nat) t v, Try.f6.params[j]? = some t → args[j]? = some v → Value.okWide Try.prog W .any base t v)
    (hW : DataW.Whole enc Try.prog Try.f6.params.toList Rows.auctionHoldsSpec.vars false W args.toList ds gs before) :
    Calls Try.prog 6 args W fun e W' => ∃ v, e = .returned v ∧ Rows.auctionHoldsSpec.post enc Try.prog Try.f6 false true false false W args v W' := by
  have hW' := hW
  obtain ⟨p, q, hA0, hV, rfl, hfz, hnd⟩ := hW
  have hA : DataW.TrodAll enc Try.prog W 0 (fun _ => true) true Try.f6.params.toList args.toList ds p := hA0
  rw [Try.params6] at hA hval
  obtain ⟨v0, vs0, d0, ds0, p0, q0, hargs, rfl, rfl, h0, r0'⟩ := trodAll_cons hA
  obtain ⟨v1, vs1, d1, ds1, p1, q1, rfl, rfl, rfl, h1, r1'⟩ := trodAll_cons r0'
  obtain ⟨rfl, rfl, rfl⟩ := trodAll_nil r1'
  obtain rfl : args = #[v0, v1] := by cases args; simp_all
  obtain ⟨rfl, rfl⟩ := trodVars_none hV
  obtain ⟨_, _, k0⟩ := par_slice Try.underlying22 (hval 0 22 v0 rfl rfl) h0
  obtain ⟨A0, n0, c0, x0, e0, z0, r0, f0⟩ := open_sl (ec := encApiBid) (wf := wfApiBid) (k := 3) Try.underlying22 (by kernel_rfl) (by kernel_rfl) (fun _ _ _ hh => el_ApiBid hh) k0
  obtain rfl : v0 = .slice A0 n0 c0 := by simpa using e0
  obtain ⟨cs1, rfl, _, _, k1⟩ := par_agg Try.underlying39 (hval 1 39 v1 rfl rfl) h1
  have l1 : cs1.length = 4 := (struct_len Try.underlying39 k1).trans (by kernel_rfl)
  obtain ⟨c1_0, c1_1, c1_2, c1_3, rfl⟩ : ∃ c1_0 c1_1 c1_2 c1_3, cs1 = [c1_0, c1_1, c1_2, c1_3] := by
    match cs1, l1 with
    | [a0, a1, a2, a3], _ => exact ⟨a0, a1, a2, a3, rfl⟩
  obtain ⟨_, _, g1_1⟩ := field_at (j := 0) (ty := 3) (off := 0) (k := 1) Try.underlying39 (by kernel_rfl) (by kernel_rfl) k1
  obtain ⟨n1_0, rfl, w1_0⟩ := intK_of (v := c1_0) Try.underlying3 g1_1
  have f1_0 := bounds_i64 w1_0
  obtain ⟨_, _, g1_2⟩ := field_at (j := 1) (ty := 3) (off := 1) (k := 1) Try.underlying39 (by kernel_rfl) (by kernel_rfl) k1
  obtain ⟨n1_1, rfl, w1_1⟩ := intK_of (v := c1_1) Try.underlying3 g1_2
  have f1_1 := bounds_i64 w1_1
  obtain ⟨_, _, g1_3⟩ := field_at (j := 2) (ty := 29) (off := 2) (k := 2) Try.underlying39 (by kernel_rfl) (by kernel_rfl) k1
  obtain ⟨_, _, g1_4⟩ := field_at (j := 0) (ty := 27) (off := 0) (k := 1) Try.underlying29 (by kernel_rfl) (by kernel_rfl) g1_3
  obtain ⟨A1_2, m1_2, d1_2, x1_2, e1_2, z1_2, r1_2, f1_2⟩ := open_sl (ec := encI) (wf := (fun x : Int => I64 x)) (k := 1) Try.underlying27 (by kernel_rfl) (by kernel_rfl) (fun _ _ _ hh => el_int3 hh) g1_4
  obtain rfl : c1_2 = .slice A1_2 m1_2 d1_2 := by simpa using e1_2
  obtain ⟨_, _, g1_5⟩ := field_at (j := 1) (ty := 3) (off := 1) (k := 1) Try.underlying29 (by kernel_rfl) (by kernel_rfl) g1_3
  obtain ⟨n1_3, rfl, w1_3⟩ := intK_of (v := c1_3) Try.underlying3 g1_5
  have f1_3 := bounds_i64 w1_3
  refine (m_recyclinglaw51_AuctionHolds_ok 10000 W x0 (⟨n1_0, n1_1, ⟨x1_2, n1_3⟩⟩ : Recyclinglaw51Sale) A0 n0 c0 A1_2 m1_2 d1_2 r0 z0 r1_2 z1_2 true (lawHolds_eq (N := 10000) (by omega) x0 (⟨n1_0, n1_1, ⟨x1_2, n1_3⟩⟩ : Recyclinglaw51Sale))).mono fun e W' ⟨_, he, hb⟩ => ?_
  subst he
  exact ⟨_, rfl, law_post hW' rfl (by rw [Try.params6]; intro t ht; simp at ht; (first | (rcases ht with rfl | rfl | rfl | rfl) | (rcases ht with rfl | rfl | rfl) | (rcases ht with rfl | rfl) | subst ht) <;> exact ⟨by kernel_rfl, of_decide_eq_true (by kernel_rfl)⟩) ⟨rfl, rfl, rfl⟩ (by kernel_rfl) hb.old⟩

theorem laid_met (os : Os) : laidMet Try.prog Rows.auctionHoldsRow.laid ((World.holding Try.prog os ⟨#[], #[], []⟩).forCall (fun _ _ => 0) ⟨#[], #[.slice none 0 0, .agg #[.int .i64 0, .int .i64 0, .slice none 0 0, .int .i64 0]], []⟩).memory :=
  laidMet_of_run' 8 (by kernel_rfl) (by kernel_rfl)
theorem reads (os : Os) {H : Type} (enc : TypeId × Value → H) : ∃ places, DataW.whole enc Try.prog ((World.holding Try.prog os ⟨#[], #[], []⟩).forCall (fun _ _ => 0) ⟨#[], #[.slice none 0 0, .agg #[.int .i64 0, .int .i64 0, .slice none 0 0, .int .i64 0]], []⟩).memory Try.f6.params.toList Rows.auctionHoldsSpec.vars false (#[.slice none 0 0, .agg #[.int .i64 0, .int .i64 0, .slice none 0 0, .int .i64 0]] : Array Value).toList 8 = some ([.nil, .agg [.lit (.int .i64 0), .lit (.int .i64 0), .agg [.nil, .lit (.int .i64 0)]]], [], places) :=
  ⟨[], by kernel_rfl⟩

set_option maxRecDepth 100000 in
theorem lifted (os : Os) (started : os.Started) (H : Type) (enc : TypeId × Value → H) (F : Stop.Interp) :
    ReturnsInHanded {} Try.checked os 6 .any ((OpenSpec.ofChange Rows.auctionHoldsSpec).preRow enc Try.prog Try.f6 Rows.auctionHoldsRow.domain false Rows.auctionHoldsRow.laid) (((OpenSpec.ofChange Rows.auctionHoldsSpec).at F).post enc Try.prog Try.f6 false true false false) := by
  obtain ⟨places, hx⟩ := reads os enc
  refine returnsInHanded_of_row (C := Try.checked) (s := OpenSpec.ofChange Rows.auctionHoldsSpec) own started (by kernel_rfl) Try.func6
    (witness_row_at (enc := enc) (C := Try.checked) false (World.holding Try.prog os ⟨#[], #[], []⟩) #[.slice none 0 0, .agg #[.int .i64 0, .int .i64 0, .slice none 0 0, .int .i64 0]] rfl (by kernel_rfl) (by kernel_rfl) (by kernel_rfl)
      (OpenSpec.preRow_of_cond 8 hx (by kernel_rfl) (fun k hk => by cases hk) (by kernel_rfl) (laid_met os))) ?_
  intro W base args ds gs before hval hW _ _ _ _ _ _
  exact contract H enc W base args ds gs before hval hW

theorem said : Rows.AuctionHoldsSaid :=
  OpenClaim.holds_of_cond 6 Try.f6 rfl rfl rfl rfl rfl rfl rfl ⟨rfl, rfl, rfl, rfl, rfl⟩ rfl rfl rfl rfl rfl (by kernel_rfl) Try.func6 (by kernel_rfl)
    (of_decide_eq_true (by kernel_rfl)) (by unfold Func.isWrapper; first | (rw [if_pos (by decide +kernel)]; kernel_rfl) | (rw [if_neg (by decide +kernel)]; exact ⟨rfl, rfl⟩))
    (fun os started H enc _ F => by rw [OpenClaim.pre_eq_preRow]; exact lifted os started H enc F)
end Go.Proofs.Ytimmifkdocjljaa.auctionHolds
