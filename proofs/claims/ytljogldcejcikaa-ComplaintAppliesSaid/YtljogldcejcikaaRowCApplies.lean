/- Proved: for every input, recyclinglaw57.ComplaintApplies returns true and its arguments read as before. No condition. -/
import Derived.Test.YtljogldcejcikaaCmpP2
import Derived.Test.YtljogldcejcikaaCmpOpen
namespace Go.Proofs.Ytljogldcejcikaa.complaintApplies
open Go.ChangeShapes Go.WideShapes Go.ChangeAt Go.RowKit Go.Deep

set_option maxRecDepth 100000 in
theorem contract (H : Type) (enc : TypeId × Value → H) (W : World) (base : Nat) (args : Array Value) (ds gs : List (DataW H)) (before : List MemPlace)
    (hval : ∀ (j : Nat) t v, Try.f5.params[j]? = some t → args[j]? = some v → Value.okWide Try.prog W .any base t v)
    (hW : DataW.Whole enc Try.prog Try.f5.params.toList Rows.complaintAppliesSpec.vars false W args.toList ds gs before) :
    Calls Try.prog 5 args W fun e W' => ∃ v, e = .returned v ∧ Rows.complaintAppliesSpec.post enc Try.prog Try.f5 false true false false W args v W' := by
  have hW' := hW
  obtain ⟨p, q, hA0, hV, rfl, hfz, hnd⟩ := hW
  have hA : DataW.TrodAll enc Try.prog W 0 (fun _ => true) true Try.f5.params.toList args.toList ds p := hA0
  rw [Try.params5] at hA hval
  obtain ⟨v0, vs0, d0, ds0, p0, q0, hargs, rfl, rfl, h0, r0'⟩ := trodAll_cons hA
  obtain ⟨v1, vs1, d1, ds1, p1, q1, rfl, rfl, rfl, h1, r1'⟩ := trodAll_cons r0'
  obtain ⟨v2, vs2, d2, ds2, p2, q2, rfl, rfl, rfl, h2, r2'⟩ := trodAll_cons r1'
  obtain ⟨rfl, rfl, rfl⟩ := trodAll_nil r2'
  obtain rfl : args = #[v0, v1, v2] := by cases args; simp_all
  obtain ⟨rfl, rfl⟩ := trodVars_none hV
  obtain ⟨cs0, rfl, _, _, k0⟩ := par_agg Try.underlying32 (hval 0 32 v0 rfl rfl) h0
  have l0 : cs0.length = 6 := (struct_len Try.underlying32 k0).trans (by kernel_rfl)
  obtain ⟨c0_0, c0_1, c0_2, c0_3, c0_4, c0_5, rfl⟩ : ∃ c0_0 c0_1 c0_2 c0_3 c0_4 c0_5, cs0 = [c0_0, c0_1, c0_2, c0_3, c0_4, c0_5] := by
    match cs0, l0 with
    | [a0, a1, a2, a3, a4, a5], _ => exact ⟨a0, a1, a2, a3, a4, a5, rfl⟩
  obtain ⟨_, _, g0_1⟩ := field_at (j := 0) (ty := 3) (off := 0) (k := 1) Try.underlying32 (by kernel_rfl) (by kernel_rfl) k0
  obtain ⟨n0_0, rfl, w0_0⟩ := intK_of (v := c0_0) Try.underlying3 g0_1
  have f0_0 := bounds_i64 w0_0
  obtain ⟨_, _, g0_2⟩ := field_at (j := 1) (ty := 3) (off := 1) (k := 1) Try.underlying32 (by kernel_rfl) (by kernel_rfl) k0
  obtain ⟨n0_1, rfl, w0_1⟩ := intK_of (v := c0_1) Try.underlying3 g0_2
  have f0_1 := bounds_i64 w0_1
  obtain ⟨_, _, g0_3⟩ := field_at (j := 2) (ty := 29) (off := 2) (k := 2) Try.underlying32 (by kernel_rfl) (by kernel_rfl) k0
  obtain ⟨_, _, g0_4⟩ := field_at (j := 0) (ty := 3) (off := 0) (k := 1) Try.underlying29 (by kernel_rfl) (by kernel_rfl) g0_3
  obtain ⟨n0_2, rfl, w0_2⟩ := intK_of (v := c0_2) Try.underlying3 g0_4
  have f0_2 := bounds_i64 w0_2
  obtain ⟨_, _, g0_5⟩ := field_at (j := 1) (ty := 3) (off := 1) (k := 1) Try.underlying29 (by kernel_rfl) (by kernel_rfl) g0_3
  obtain ⟨n0_3, rfl, w0_3⟩ := intK_of (v := c0_3) Try.underlying3 g0_5
  have f0_3 := bounds_i64 w0_3
  obtain ⟨_, _, g0_6⟩ := field_at (j := 3) (ty := 30) (off := 4) (k := 1) Try.underlying32 (by kernel_rfl) (by kernel_rfl) k0
  obtain ⟨A0_4, m0_4, d0_4, x0_4, e0_4, z0_4, r0_4, f0_4⟩ := open_sl (ec := encApiItem) (wf := wfApiItem) (k := 5) Try.underlying30 (by kernel_rfl) (by kernel_rfl) (fun _ _ _ hh => el_ApiItem hh) g0_6
  obtain rfl : c0_4 = .slice A0_4 m0_4 d0_4 := by simpa using e0_4
  obtain ⟨_, _, g0_7⟩ := field_at (j := 4) (ty := 3) (off := 5) (k := 1) Try.underlying32 (by kernel_rfl) (by kernel_rfl) k0
  obtain ⟨n0_5, rfl, w0_5⟩ := intK_of (v := c0_5) Try.underlying3 g0_7
  have f0_5 := bounds_i64 w0_5
  obtain ⟨cs1, rfl, _, _, k1⟩ := par_agg Try.underlying23 (hval 1 23 v1 rfl rfl) h1
  obtain ⟨x1, rfl, f1⟩ := el_ApiComplaint k1
  obtain ⟨cs2, rfl, _, _, k2⟩ := par_agg Try.underlying37 (hval 2 37 v2 rfl rfl) h2
  obtain ⟨x2, rfl, f2⟩ := el_ApiRuling k2
  refine (m_recyclinglaw57_ComplaintApplies_ok 10000 W (⟨n0_0, n0_1, ⟨n0_2, n0_3⟩, x0_4, n0_5⟩ : ApiBill) x1 x2 A0_4 m0_4 d0_4 r0_4 z0_4 true (lawCApplies_eq (⟨n0_0, n0_1, ⟨n0_2, n0_3⟩, x0_4, n0_5⟩ : ApiBill) x1 x2)).mono fun e W' ⟨_, he, hb⟩ => ?_
  subst he
  exact ⟨_, rfl, law_post hW' rfl (by rw [Try.params5]; intro t ht; simp at ht; (first | (rcases ht with rfl | rfl | rfl | rfl) | (rcases ht with rfl | rfl | rfl) | (rcases ht with rfl | rfl) | subst ht) <;> exact ⟨by kernel_rfl, of_decide_eq_true (by kernel_rfl)⟩) ⟨rfl, rfl, rfl⟩ (by kernel_rfl) hb.old⟩

theorem laid_met (os : Os) : laidMet Try.prog Rows.complaintAppliesRow.laid ((World.holding Try.prog os ⟨#[], #[], []⟩).forCall (fun _ _ => 0) ⟨#[], #[.agg #[.int .i64 0, .int .i64 0, .int .i64 0, .int .i64 0, .slice none 0 0, .int .i64 0], .agg #[.int .i64 0, .int .i64 0, .int .i64 0, .int .i64 0], .agg #[.int .i64 0, .int .i64 0]], []⟩).memory :=
  laidMet_of_run' 8 (by kernel_rfl) (by kernel_rfl)
theorem reads (os : Os) {H : Type} (enc : TypeId × Value → H) : ∃ places, DataW.whole enc Try.prog ((World.holding Try.prog os ⟨#[], #[], []⟩).forCall (fun _ _ => 0) ⟨#[], #[.agg #[.int .i64 0, .int .i64 0, .int .i64 0, .int .i64 0, .slice none 0 0, .int .i64 0], .agg #[.int .i64 0, .int .i64 0, .int .i64 0, .int .i64 0], .agg #[.int .i64 0, .int .i64 0]], []⟩).memory Try.f5.params.toList Rows.complaintAppliesSpec.vars false (#[.agg #[.int .i64 0, .int .i64 0, .int .i64 0, .int .i64 0, .slice none 0 0, .int .i64 0], .agg #[.int .i64 0, .int .i64 0, .int .i64 0, .int .i64 0], .agg #[.int .i64 0, .int .i64 0]] : Array Value).toList 8 = some ([.agg [.lit (.int .i64 0), .lit (.int .i64 0), .agg [.lit (.int .i64 0), .lit (.int .i64 0)], .nil, .lit (.int .i64 0)], .agg [.lit (.int .i64 0), .lit (.int .i64 0), .lit (.int .i64 0), .lit (.int .i64 0)], .agg [.lit (.int .i64 0), .lit (.int .i64 0)]], [], places) :=
  ⟨[], by kernel_rfl⟩

set_option maxRecDepth 100000 in
theorem lifted (os : Os) (started : os.Started) (H : Type) (enc : TypeId × Value → H) (F : Stop.Interp) :
    ReturnsInHanded {} Try.checked os 5 .any ((OpenSpec.ofChange Rows.complaintAppliesSpec).preRow enc Try.prog Try.f5 Rows.complaintAppliesRow.domain false Rows.complaintAppliesRow.laid) (((OpenSpec.ofChange Rows.complaintAppliesSpec).at F).post enc Try.prog Try.f5 false true false false) := by
  obtain ⟨places, hx⟩ := reads os enc
  refine returnsInHanded_of_row (C := Try.checked) (s := OpenSpec.ofChange Rows.complaintAppliesSpec) own started (by kernel_rfl) Try.func5
    (witness_row_at (enc := enc) (C := Try.checked) false (World.holding Try.prog os ⟨#[], #[], []⟩) #[.agg #[.int .i64 0, .int .i64 0, .int .i64 0, .int .i64 0, .slice none 0 0, .int .i64 0], .agg #[.int .i64 0, .int .i64 0, .int .i64 0, .int .i64 0], .agg #[.int .i64 0, .int .i64 0]] rfl (by kernel_rfl) (by kernel_rfl) (by kernel_rfl)
      (OpenSpec.preRow_of_cond 8 hx (by kernel_rfl) (fun k hk => by cases hk) (by kernel_rfl) (laid_met os))) ?_
  intro W base args ds gs before hval hW _ _ _ _ _ _
  exact contract H enc W base args ds gs before hval hW

theorem said : Rows.ComplaintAppliesSaid :=
  OpenClaim.holds_of_cond 5 Try.f5 rfl rfl rfl rfl rfl rfl rfl ⟨rfl, rfl, rfl, rfl, rfl⟩ rfl rfl rfl rfl rfl (by kernel_rfl) Try.func5 (by kernel_rfl)
    (of_decide_eq_true (by kernel_rfl)) (by unfold Func.isWrapper; first | (rw [if_pos (by decide +kernel)]; kernel_rfl) | (rw [if_neg (by decide +kernel)]; exact ⟨rfl, rfl⟩))
    (fun os started H enc _ F => by rw [OpenClaim.pre_eq_preRow]; exact lifted os started H enc F)
end Go.Proofs.Ytljogldcejcikaa.complaintApplies
