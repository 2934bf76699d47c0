/- Proved: for every input, recyclinglaw51.AuctionAccounts returns true and its arguments read as before. No condition. -/
import Derived.Test.YtimmifkdocjljaaAucP4
import Derived.Test.YtimmifkdocjljaaAucOpen
namespace Go.Proofs.Ytimmifkdocjljaa.auctionAccounts
open Go.ChangeShapes Go.WideShapes Go.ChangeAt Go.RowKit Go.Deep

set_option maxRecDepth 100000 in
theorem contract (H : Type) (enc : TypeId × Value → H) (W : World) (base : Nat) (args : Array Value) (ds gs : List (DataW H)) (before : List MemPlace)
    (hval : ∀ (j : Nat) t v, Try.f5.params[j]? = some t → args[j]? = some v → Value.okWide Try.prog W .any base t v)
    (hW : DataW.Whole enc Try.prog Try.f5.params.toList Rows.auctionAccountsSpec.vars false W args.toList ds gs before) :
    Calls Try.prog 5 args W fun e W' => ∃ v, e = .returned v ∧ Rows.auctionAccountsSpec.post enc Try.prog Try.f5 false true false false W args v W' := by
  have hW' := hW
  obtain ⟨p, q, hA0, hV, rfl, hfz, hnd⟩ := hW
  have hA : DataW.TrodAll enc Try.prog W 0 (fun _ => true) true Try.f5.params.toList args.toList ds p := hA0
  rw [Try.params5] at hA hval
  obtain ⟨v0, vs0, d0, ds0, p0, q0, hargs, rfl, rfl, h0, r0'⟩ := trodAll_cons hA
  obtain ⟨v1, vs1, d1, ds1, p1, q1, rfl, rfl, rfl, h1, r1'⟩ := trodAll_cons r0'
  obtain ⟨v2, vs2, d2, ds2, p2, q2, rfl, rfl, rfl, h2, r2'⟩ := trodAll_cons r1'
  obtain ⟨rfl, rfl, rfl⟩ := trodAll_nil r2'
  obtain rfl : args = #[v0, v1, v2] := by cases args; simp_all
  obtain ⟨rfl, rfl⟩ := trodVars_none hV
  obtain ⟨cs0, rfl, _, _, k0⟩ := par_agg Try.underlying29 (hval 0 29 v0 rfl rfl) h0
  have l0 : cs0.length = 2 := (struct_len Try.underlying29 k0).trans (by kernel_rfl)
  obtain ⟨c0_0, c0_1, rfl⟩ : ∃ c0_0 c0_1, cs0 = [c0_0, c0_1] := by
    match cs0, l0 with
    | [a0, a1], _ => exact ⟨a0, a1, rfl⟩
  obtain ⟨_, _, g0_1⟩ := field_at (j := 0) (ty := 27) (off := 0) (k := 1) Try.underlying29 (by kernel_rfl) (by kernel_rfl) k0
  obtain ⟨A0_0, m0_0, d0_0, x0_0, e0_0, z0_0, r0_0, f0_0⟩ := open_sl (ec := encI) (wf := (fun x : Int => I64 x)) (k := 1) Try.underlying27 (by kernel_rfl) (by kernel_rfl) (fun _ _ _ hh => el_int3 hh) g0_1
  obtain rfl : c0_0 = .slice A0_0 m0_0 d0_0 := by simpa using e0_0
  obtain ⟨_, _, g0_2⟩ := field_at (j := 1) (ty := 3) (off := 1) (k := 1) Try.underlying29 (by kernel_rfl) (by kernel_rfl) k0
  obtain ⟨n0_1, rfl, w0_1⟩ := intK_of (v := c0_1) Try.underlying3 g0_2
  have f0_1 := bounds_i64 w0_1
  obtain ⟨x1, rfl, w1⟩ := par_int Try.underlying3 (hval 1 3 v1 rfl rfl) h1
  have f1 := bounds_i64 w1
  obtain ⟨x2, rfl, w2⟩ := par_int Try.underlying3 (hval 2 3 v2 rfl rfl) h2
  have f2 := bounds_i64 w2
  refine (m_recyclinglaw51_AuctionAccounts_ok 10000 W (⟨x0_0, n0_1⟩ : ApiOutcome) x1 x2 A0_0 m0_0 d0_0 r0_0 z0_0 true (lawAccounts_eq (N := 10000) (by omega) (⟨x0_0, n0_1⟩ : ApiOutcome) x1 x2)).mono fun e W' ⟨_, he, hb⟩ => ?_
  subst he
  exact ⟨_, rfl, law_post hW' rfl (by rw [Try.params5]; intro t ht; simp at ht; (first | (rcases ht with rfl | rfl | rfl | rfl) | (rcases ht with rfl | rfl | rfl) | (rcases ht with rfl | rfl) | subst ht) <;> exact ⟨by kernel_rfl, of_decide_eq_true (by kernel_rfl)⟩) ⟨rfl, rfl, rfl⟩ (by kernel_rfl) hb.old⟩

theorem laid_met (os : Os) : laidMet Try.prog Rows.auctionAccountsRow.laid ((World.holding Try.prog os ⟨#[], #[], []⟩).forCall (fun _ _ => 0) ⟨#[], #[.agg #[.slice none 0 0, .int .i64 0], .int .i64 0, .int .i64 0], []⟩).memory :=
  laidMet_of_run' 8 (by kernel_rfl) (by kernel_rfl)
theorem reads (os : Os) {H : Type} (enc : TypeId × Value → H) : ∃ places, DataW.whole enc Try.prog ((World.holding Try.prog os ⟨#[], #[], []⟩).forCall (fun _ _ => 0) ⟨#[], #[.agg #[.slice none 0 0, .int .i64 0], .int .i64 0, .int .i64 0], []⟩).memory Try.f5.params.toList Rows.auctionAccountsSpec.vars false (#[.agg #[.slice none 0 0, .int .i64 0], .int .i64 0, .int .i64 0] : Array Value).toList 8 = some ([.agg [.nil, .lit (.int .i64 0)], .lit (.int .i64 0), .lit (.int .i64 0)], [], places) :=
  ⟨[], by kernel_rfl⟩

set_option maxRecDepth 100000 in
theorem lifted (os : Os) (started : os.Started) (H : Type) (enc : TypeId × Value → H) (F : Stop.Interp) :
    ReturnsInHanded {} Try.checked os 5 .any ((OpenSpec.ofChange Rows.auctionAccountsSpec).preRow enc Try.prog Try.f5 Rows.auctionAccountsRow.domain false Rows.auctionAccountsRow.laid) (((OpenSpec.ofChange Rows.auctionAccountsSpec).at F).post enc Try.prog Try.f5 false true false false) := by
  obtain ⟨places, hx⟩ := reads os enc
  refine returnsInHanded_of_row (C := Try.checked) (s := OpenSpec.ofChange Rows.auctionAccountsSpec) own started (by kernel_rfl) Try.func5
    (witness_row_at (enc := enc) (C := Try.checked) false (World.holding Try.prog os ⟨#[], #[], []⟩) #[.agg #[.slice none 0 0, .int .i64 0], .int .i64 0, .int .i64 0] rfl (by kernel_rfl) (by kernel_rfl) (by kernel_rfl)
      (OpenSpec.preRow_of_cond 8 hx (by kernel_rfl) (fun k hk => by cases hk) (by kernel_rfl) (laid_met os))) ?_
  intro W base args ds gs before hval hW _ _ _ _ _ _
  exact contract H enc W base args ds gs before hval hW

theorem said : Rows.AuctionAccountsSaid :=
  OpenClaim.holds_of_cond 5 Try.f5 rfl rfl rfl rfl rfl rfl rfl ⟨rfl, rfl, rfl, rfl, rfl⟩ rfl rfl rfl rfl rfl (by kernel_rfl) Try.func5 (by kernel_rfl)
    (of_decide_eq_true (by kernel_rfl)) (by unfold Func.isWrapper; first | (rw [if_pos (by decide +kernel)]; kernel_rfl) | (rw [if_neg (by decide +kernel)]; exact ⟨rfl, rfl⟩))
    (fun os started H enc _ F => by rw [OpenClaim.pre_eq_preRow]; exact lifted os started H enc F)
end Go.Proofs.Ytimmifkdocjljaa.auctionAccounts
