/- Proved: for every input, recyclinglaw57.ComplaintDecides returns true and its arguments read as before. No condition. -/
import Derived.Test.YtljogldcejcikaaGreatZCmpP4
import Derived.Test.YtljogldcejcikaaGreatZOpen
namespace Go.Proofs.YtljogldcejcikaaGreat.complaintDecides
open Go.ChangeShapes Go.WideShapes Go.ChangeAt Go.RowKit Go.Deep

set_option maxRecDepth 100000 in
theorem contract (H : Type) (enc : TypeId × Value → H) (W : World) (base : Nat) (args : Array Value) (ds gs : List (DataW H)) (before : List MemPlace)
    (hval : ∀ (j : Nat) t v, Tryz.f3.params[j]? = some t → args[j]? = some v → Value.okWide Tryz.prog W .any base t v)
    (hW : DataW.Whole enc Tryz.prog Tryz.f3.params.toList Rows.complaintDecidesSpec.vars false W args.toList ds gs before) :
    Calls Tryz.prog 3 args W fun e W' => ∃ v, e = .returned v ∧ Rows.complaintDecidesSpec.post enc Tryz.prog Tryz.f3 false true false false W args v W' := by
  have hW' := hW
  obtain ⟨p, q, hA0, hV, rfl, hfz, hnd⟩ := hW
  have hA : DataW.TrodAll enc Tryz.prog W 0 (fun _ => true) true Tryz.f3.params.toList args.toList ds p := hA0
  rw [Tryz.params3] at hA hval
  obtain ⟨v0, vs0, d0, ds0, p0, q0, hargs, rfl, rfl, h0, r0'⟩ := trodAll_cons hA
  obtain ⟨rfl, rfl, rfl⟩ := trodAll_nil r0'
  obtain rfl : args = #[v0] := by cases args; simp_all
  obtain ⟨rfl, rfl⟩ := trodVars_none hV
  obtain ⟨cs0, rfl, _, _, k0⟩ := par_agg Tryz.underlying37 (hval 0 37 v0 rfl rfl) h0
  have l0 : cs0.length = 17 := (struct_len Tryz.underlying37 k0).trans (by kernel_rfl)
  obtain ⟨c0_0, c0_1, c0_2, c0_3, c0_4, c0_5, c0_6, c0_7, c0_8, c0_9, c0_10, c0_11, c0_12, c0_13, c0_14, c0_15, c0_16, rfl⟩ : ∃ c0_0 c0_1 c0_2 c0_3 c0_4 c0_5 c0_6 c0_7 c0_8 c0_9 c0_10 c0_11 c0_12 c0_13 c0_14 c0_15 c0_16, cs0 = [c0_0, c0_1, c0_2, c0_3, c0_4, c0_5, c0_6, c0_7, c0_8, c0_9, c0_10, c0_11, c0_12, c0_13, c0_14, c0_15, c0_16] := by
    match cs0, l0 with
    | [a0, a1, a2, a3, a4, a5, a6, a7, a8, a9, a10, a11, a12, a13, a14, a15, a16], _ => exact ⟨a0, a1, a2, a3, a4, a5, a6, a7, a8, a9, a10, a11, a12, a13, a14, a15, a16, rfl⟩
  obtain ⟨_, _, g0_1⟩ := field_at (j := 0) (ty := 28) (off := 0) (k := 6) Tryz.underlying37 (by kernel_rfl) (by kernel_rfl) k0
  obtain ⟨_, _, g0_2⟩ := field_at (j := 0) (ty := 22) (off := 0) (k := 1) Tryz.underlying28 (by kernel_rfl) (by kernel_rfl) g0_1
  obtain ⟨A0_0, m0_0, d0_0, x0_0, e0_0, z0_0, r0_0, f0_0⟩ := open_sl (ec := encApiHousehold) (wf := wfApiHousehold) (k := 2) Tryz.underlying22 (by kernel_rfl) (by kernel_rfl) (fun _ _ _ hh => el_ApiHousehold hh) g0_2
  obtain rfl : c0_0 = .slice A0_0 m0_0 d0_0 := by simpa using e0_0
  obtain ⟨_, _, g0_3⟩ := field_at (j := 1) (ty := 23) (off := 1) (k := 1) Tryz.underlying28 (by kernel_rfl) (by kernel_rfl) g0_1
  obtain ⟨A0_1, m0_1, d0_1, x0_1, e0_1, z0_1, r0_1, f0_1⟩ := open_sl (ec := encApiContainer) (wf := wfApiContainer) (k := 5) Tryz.underlying23 (by kernel_rfl) (by kernel_rfl) (fun _ _ _ hh => el_ApiContainer hh) g0_3
  obtain rfl : c0_1 = .slice A0_1 m0_1 d0_1 := by simpa using e0_1
  obtain ⟨_, _, g0_4⟩ := field_at (j := 2) (ty := 24) (off := 2) (k := 1) Tryz.underlying28 (by kernel_rfl) (by kernel_rfl) g0_1
  obtain ⟨A0_2, m0_2, d0_2, x0_2, e0_2, z0_2, r0_2, f0_2⟩ := open_sl (ec := encApiAssign) (wf := wfApiAssign) (k := 4) Tryz.underlying24 (by kernel_rfl) (by kernel_rfl) (fun _ _ _ hh => el_ApiAssign hh) g0_4
  obtain rfl : c0_2 = .slice A0_2 m0_2 d0_2 := by simpa using e0_2
  obtain ⟨_, _, g0_5⟩ := field_at (j := 3) (ty := 25) (off := 3) (k := 1) Tryz.underlying28 (by kernel_rfl) (by kernel_rfl) g0_1
  obtain ⟨A0_3, m0_3, d0_3, x0_3, e0_3, z0_3, r0_3, f0_3⟩ := open_sl (ec := encApiEmptying) (wf := wfApiEmptying) (k := 7) Tryz.underlying25 (by kernel_rfl) (by kernel_rfl) (fun _ _ _ hh => el_ApiEmptying hh) g0_5
  obtain rfl : c0_3 = .slice A0_3 m0_3 d0_3 := by simpa using e0_3
  obtain ⟨_, _, g0_6⟩ := field_at (j := 4) (ty := 26) (off := 4) (k := 1) Tryz.underlying28 (by kernel_rfl) (by kernel_rfl) g0_1
  obtain ⟨A0_4, m0_4, d0_4, x0_4, e0_4, z0_4, r0_4, f0_4⟩ := open_sl (ec := encApiTariff) (wf := wfApiTariff) (k := 5) Tryz.underlying26 (by kernel_rfl) (by kernel_rfl) (fun _ _ _ hh => el_ApiTariff hh) g0_6
  obtain rfl : c0_4 = .slice A0_4 m0_4 d0_4 := by simpa using e0_4
  obtain ⟨_, _, g0_7⟩ := field_at (j := 5) (ty := 3) (off := 5) (k := 1) Tryz.underlying28 (by kernel_rfl) (by kernel_rfl) g0_1
  obtain ⟨n0_5, rfl, w0_5⟩ := intK_of (v := c0_5) Tryz.underlying3 g0_7
  have f0_5 := bounds_i64 w0_5
  obtain ⟨_, _, g0_8⟩ := field_at (j := 1) (ty := 33) (off := 6) (k := 6) Tryz.underlying37 (by kernel_rfl) (by kernel_rfl) k0
  obtain ⟨_, _, g0_9⟩ := field_at (j := 0) (ty := 3) (off := 0) (k := 1) Tryz.underlying33 (by kernel_rfl) (by kernel_rfl) g0_8
  obtain ⟨n0_6, rfl, w0_6⟩ := intK_of (v := c0_6) Tryz.underlying3 g0_9
  have f0_6 := bounds_i64 w0_6
  obtain ⟨_, _, g0_10⟩ := field_at (j := 1) (ty := 3) (off := 1) (k := 1) Tryz.underlying33 (by kernel_rfl) (by kernel_rfl) g0_8
  obtain ⟨n0_7, rfl, w0_7⟩ := intK_of (v := c0_7) Tryz.underlying3 g0_10
  have f0_7 := bounds_i64 w0_7
  obtain ⟨_, _, g0_11⟩ := field_at (j := 2) (ty := 30) (off := 2) (k := 2) Tryz.underlying33 (by kernel_rfl) (by kernel_rfl) g0_8
  obtain ⟨_, _, g0_12⟩ := field_at (j := 0) (ty := 3) (off := 0) (k := 1) Tryz.underlying30 (by kernel_rfl) (by kernel_rfl) g0_11
  obtain ⟨n0_8, rfl, w0_8⟩ := intK_of (v := c0_8) Tryz.underlying3 g0_12
  have f0_8 := bounds_i64 w0_8
  obtain ⟨_, _, g0_13⟩ := field_at (j := 1) (ty := 3) (off := 1) (k := 1) Tryz.underlying30 (by kernel_rfl) (by kernel_rfl) g0_11
  obtain ⟨n0_9, rfl, w0_9⟩ := intK_of (v := c0_9) Tryz.underlying3 g0_13
  have f0_9 := bounds_i64 w0_9
  obtain ⟨_, _, g0_14⟩ := field_at (j := 3) (ty := 31) (off := 4) (k := 1) Tryz.underlying33 (by kernel_rfl) (by kernel_rfl) g0_8
  obtain ⟨A0_10, m0_10, d0_10, x0_10, e0_10, z0_10, r0_10, f0_10⟩ := open_sl (ec := encApiItem) (wf := wfApiItem) (k := 5) Tryz.underlying31 (by kernel_rfl) (by kernel_rfl) (fun _ _ _ hh => el_ApiItem hh) g0_14
  obtain rfl : c0_10 = .slice A0_10 m0_10 d0_10 := by simpa using e0_10
  obtain ⟨_, _, g0_15⟩ := field_at (j := 4) (ty := 3) (off := 5) (k := 1) Tryz.underlying33 (by kernel_rfl) (by kernel_rfl) g0_8
  obtain ⟨n0_11, rfl, w0_11⟩ := intK_of (v := c0_11) Tryz.underlying3 g0_15
  have f0_11 := bounds_i64 w0_11
  obtain ⟨_, _, g0_16⟩ := field_at (j := 2) (ty := 35) (off := 12) (k := 4) Tryz.underlying37 (by kernel_rfl) (by kernel_rfl) k0
  obtain ⟨_, _, g0_17⟩ := field_at (j := 0) (ty := 3) (off := 0) (k := 1) Tryz.underlying35 (by kernel_rfl) (by kernel_rfl) g0_16
  obtain ⟨n0_12, rfl, w0_12⟩ := intK_of (v := c0_12) Tryz.underlying3 g0_17
  have f0_12 := bounds_i64 w0_12
  obtain ⟨_, _, g0_18⟩ := field_at (j := 1) (ty := 3) (off := 1) (k := 1) Tryz.underlying35 (by kernel_rfl) (by kernel_rfl) g0_16
  obtain ⟨n0_13, rfl, w0_13⟩ := intK_of (v := c0_13) Tryz.underlying3 g0_18
  have f0_13 := bounds_i64 w0_13
  obtain ⟨_, _, g0_19⟩ := field_at (j := 2) (ty := 3) (off := 2) (k := 1) Tryz.underlying35 (by kernel_rfl) (by kernel_rfl) g0_16
  obtain ⟨n0_14, rfl, w0_14⟩ := intK_of (v := c0_14) Tryz.underlying3 g0_19
  have f0_14 := bounds_i64 w0_14
  obtain ⟨_, _, g0_20⟩ := field_at (j := 3) (ty := 3) (off := 3) (k := 1) Tryz.underlying35 (by kernel_rfl) (by kernel_rfl) g0_16
  obtain ⟨n0_15, rfl, w0_15⟩ := intK_of (v := c0_15) Tryz.underlying3 g0_20
  have f0_15 := bounds_i64 w0_15
  obtain ⟨_, _, g0_21⟩ := field_at (j := 3) (ty := 3) (off := 16) (k := 1) Tryz.underlying37 (by kernel_rfl) (by kernel_rfl) k0
  obtain ⟨n0_16, rfl, w0_16⟩ := intK_of (v := c0_16) Tryz.underlying3 g0_21
  have f0_16 := bounds_i64 w0_16
  refine (m_recyclinglaw57_ComplaintDecides_ok 10000 W (⟨⟨x0_0, x0_1, x0_2, x0_3, x0_4, n0_5⟩, ⟨n0_6, n0_7, ⟨n0_8, n0_9⟩, x0_10, n0_11⟩, ⟨n0_12, n0_13, n0_14, n0_15⟩, n0_16⟩ : Recyclinglaw57Case) A0_0 m0_0 d0_0 A0_1 m0_1 d0_1 A0_2 m0_2 d0_2 A0_3 m0_3 d0_3 A0_4 m0_4 d0_4 A0_10 m0_10 d0_10 r0_0 z0_0 r0_1 z0_1 r0_2 z0_2 r0_3 z0_3 r0_4 z0_4 r0_10 z0_10 true (lawCDecides_eq (⟨⟨x0_0, x0_1, x0_2, x0_3, x0_4, n0_5⟩, ⟨n0_6, n0_7, ⟨n0_8, n0_9⟩, x0_10, n0_11⟩, ⟨n0_12, n0_13, n0_14, n0_15⟩, n0_16⟩ : Recyclinglaw57Case))).mono fun e W' ⟨_, he, hb⟩ => ?_
  subst he
  exact ⟨_, rfl, law_post hW' rfl (by rw [Tryz.params3]; intro t ht; simp at ht; (first | (rcases ht with rfl | rfl | rfl | rfl) | (rcases ht with rfl | rfl | rfl) | (rcases ht with rfl | rfl) | subst ht) <;> exact ⟨by kernel_rfl, of_decide_eq_true (by kernel_rfl)⟩) ⟨rfl, rfl, rfl⟩ (by kernel_rfl) hb.old⟩

theorem laid_met (os : Os) : laidMet Tryz.prog Rows.complaintDecidesRow.laid ((World.holding Tryz.prog os ⟨#[], #[], []⟩).forCall (fun _ _ => 0) ⟨#[], #[.agg #[.slice none 0 0, .slice none 0 0, .slice none 0 0, .slice none 0 0, .slice none 0 0, .int .i64 0, .int .i64 0, .int .i64 0, .int .i64 0, .int .i64 0, .slice none 0 0, .int .i64 0, .int .i64 0, .int .i64 0, .int .i64 0, .int .i64 0, .int .i64 0]], []⟩).memory :=
  laidMet_of_run' 8 (by kernel_rfl) (by kernel_rfl)
theorem reads (os : Os) {H : Type} (enc : TypeId × Value → H) : ∃ places, DataW.whole enc Tryz.prog ((World.holding Tryz.prog os ⟨#[], #[], []⟩).forCall (fun _ _ => 0) ⟨#[], #[.agg #[.slice none 0 0, .slice none 0 0, .slice none 0 0, .slice none 0 0, .slice none 0 0, .int .i64 0, .int .i64 0, .int .i64 0, .int .i64 0, .int .i64 0, .slice none 0 0, .int .i64 0, .int .i64 0, .int .i64 0, .int .i64 0, .int .i64 0, .int .i64 0]], []⟩).memory Tryz.f3.params.toList Rows.complaintDecidesSpec.vars false (#[.agg #[.slice none 0 0, .slice none 0 0, .slice none 0 0, .slice none 0 0, .slice none 0 0, .int .i64 0, .int .i64 0, .int .i64 0, .int .i64 0, .int .i64 0, .slice none 0 0, .int .i64 0, .int .i64 0, .int .i64 0, .int .i64 0, .int .i64 0, .int .i64 0]] : Array Value).toList 8 = some ([.agg [.agg [.nil, .nil, .nil, .nil, .nil, .lit (.int .i64 0)], .agg [.lit (.int .i64 0), .lit (.int .i64 0), .agg [.lit (.int .i64 0), .lit (.int .i64 0)], .nil, .lit (.int .i64 0)], .agg [.lit (.int .i64 0), .lit (.int .i64 0), .lit (.int .i64 0), .lit (.int .i64 0)], .lit (.int .i64 0)]], [], places) :=
  ⟨[], by kernel_rfl⟩

set_option maxRecDepth 100000 in
theorem lifted (os : Os) (started : os.Started) (H : Type) (enc : TypeId × Value → H) (F : Stop.Interp) :
    ReturnsInHanded {} Tryz.checked os 3 .any ((OpenSpec.ofChange Rows.complaintDecidesSpec).preRow enc Tryz.prog Tryz.f3 Rows.complaintDecidesRow.domain false Rows.complaintDecidesRow.laid) (((OpenSpec.ofChange Rows.complaintDecidesSpec).at F).post enc Tryz.prog Tryz.f3 false true false false) := by
  obtain ⟨places, hx⟩ := reads os enc
  refine returnsInHanded_of_row (C := Tryz.checked) (s := OpenSpec.ofChange Rows.complaintDecidesSpec) own started (by kernel_rfl) Tryz.func3
    (witness_row_at (enc := enc) (C := Tryz.checked) false (World.holding Tryz.prog os ⟨#[], #[], []⟩) #[.agg #[.slice none 0 0, .slice none 0 0, .slice none 0 0, .slice none 0 0, .slice none 0 0, .int .i64 0, .int .i64 0, .int .i64 0, .int .i64 0, .int .i64 0, .slice none 0 0, .int .i64 0, .int .i64 0, .int .i64 0, .int .i64 0, .int .i64 0, .int .i64 0]] rfl (by kernel_rfl) (by kernel_rfl) (by kernel_rfl)
      (OpenSpec.preRow_of_cond 8 hx (by kernel_rfl) (fun k hk => by cases hk) (by kernel_rfl) (laid_met os))) ?_
  intro W base args ds gs before hval hW _ _ _ _ _ _
  exact contract H enc W base args ds gs before hval hW

theorem said : Rows.ComplaintDecidesSaid :=
  OpenClaim.holds_of_cond 3 Tryz.f3 rfl rfl rfl rfl rfl rfl rfl ⟨rfl, rfl, rfl, rfl, rfl⟩ rfl rfl rfl rfl rfl (by kernel_rfl) Tryz.func3 (by kernel_rfl)
    (of_decide_eq_true (by kernel_rfl)) (by unfold Func.isWrapper; first | (rw [if_pos (by decide +kernel)]; kernel_rfl) | (rw [if_neg (by decide +kernel)]; exact ⟨rfl, rfl⟩))
    (fun os started H enc _ F => by rw [OpenClaim.pre_eq_preRow]; exact lifted os started H enc F)
end Go.Proofs.YtljogldcejcikaaGreat.complaintDecides
