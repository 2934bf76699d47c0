/- Proved: for every input, recyclinglaw59.AuditMade returns true and its arguments read as before. No condition. -/
import Derived.Test.YtbnimhmoffchdaaGreatDoorCards
import Derived.Test.YtbnimhmoffchdaaGreatDoorTie
import Derived.Test.YtbnimhmoffchdaaGreatDoorWAu8
import Derived.Test.YtbnimhmoffchdaaGreatDoorAudOpenM
import Derived.Test.YtbnimhmoffchdaaGreatDoorALaid
namespace Go.Proofs.YtbnimhmoffchdaaGreatDoor.auditMade
open Go.ChangeShapes Go.WideShapes Go.ChangeAt Go.RowKit Go.Deep

set_option maxRecDepth 100000 in
theorem contract (H : Type) (enc : TypeId × Value → H) (W : World) (base : Nat) (args : Array Value) (ds gs : List (DataW H)) (before : List MemPlace)
    (hval : ∀ (j : Nat) t v, Tryz.f4.params[j]? = some t → args[j]? = some v → Value.okWide Tryz.prog W .any base t v)
    (hW : DataW.Whole enc Tryz.prog Tryz.f4.params.toList Rows.auditMadeSpec.vars false W args.toList ds gs before) (hL : laidMetH Tryz.prog laidList W) :
    Calls Tryz.prog 4 args W fun e W' => ∃ v, e = .returned v ∧ Rows.auditMadeSpec.post enc Tryz.prog Tryz.f4 false true false false W args v W' := by
  have hW' := hW
  obtain ⟨p, q, hA0, hV, rfl, hfz, hnd⟩ := hW
  have hA : DataW.TrodAll enc Tryz.prog W 0 (fun _ => true) true Tryz.f4.params.toList args.toList ds p := hA0
  rw [Tryz.params4] at hA hval
  obtain ⟨v0, vs0, d0, ds0, p0, q0, hargs, rfl, rfl, h0, r0'⟩ := trodAll_cons hA
  obtain ⟨v1, vs1, d1, ds1, p1, q1, rfl, rfl, rfl, h1, r1'⟩ := trodAll_cons r0'
  obtain ⟨v2, vs2, d2, ds2, p2, q2, rfl, rfl, rfl, h2, r2'⟩ := trodAll_cons r1'
  obtain ⟨rfl, rfl, rfl⟩ := trodAll_nil r2'
  obtain rfl : args = #[v0, v1, v2] := by cases args; simp_all
  obtain ⟨rfl, rfl⟩ := trodVars_none hV
  obtain ⟨cs0, rfl, _, _, k0⟩ := par_agg Tryz.underlying28 (hval 0 28 v0 rfl rfl) h0
  have l0 : cs0.length = 6 := (struct_len Tryz.underlying28 k0).trans (by kernel_rfl)
  obtain ⟨c0_0, c0_1, c0_2, c0_3, c0_4, c0_5, rfl⟩ : ∃ c0_0 c0_1 c0_2 c0_3 c0_4 c0_5, cs0 = [c0_0, c0_1, c0_2, c0_3, c0_4, c0_5] := by
    match cs0, l0 with
    | [a0, a1, a2, a3, a4, a5], _ => exact ⟨a0, a1, a2, a3, a4, a5, rfl⟩
  obtain ⟨_, _, g0_1⟩ := field_at (j := 0) (ty := 22) (off := 0) (k := 1) Tryz.underlying28 (by kernel_rfl) (by kernel_rfl) k0
  obtain ⟨A0_0, m0_0, d0_0, x0_0, e0_0, z0_0, r0_0, f0_0⟩ := open_sl (ec := encApiHousehold) (wf := wfApiHousehold) (k := 2) Tryz.underlying22 (by kernel_rfl) (by kernel_rfl) (fun _ _ _ hh => el_ApiHousehold hh) g0_1
  obtain rfl : c0_0 = .slice A0_0 m0_0 d0_0 := by simpa using e0_0
  obtain ⟨_, _, g0_2⟩ := field_at (j := 1) (ty := 23) (off := 1) (k := 1) Tryz.underlying28 (by kernel_rfl) (by kernel_rfl) k0
  obtain ⟨A0_1, m0_1, d0_1, x0_1, e0_1, z0_1, r0_1, f0_1⟩ := open_sl (ec := encApiContainer) (wf := wfApiContainer) (k := 5) Tryz.underlying23 (by kernel_rfl) (by kernel_rfl) (fun _ _ _ hh => el_ApiContainer hh) g0_2
  obtain rfl : c0_1 = .slice A0_1 m0_1 d0_1 := by simpa using e0_1
  obtain ⟨_, _, g0_3⟩ := field_at (j := 2) (ty := 24) (off := 2) (k := 1) Tryz.underlying28 (by kernel_rfl) (by kernel_rfl) k0
  obtain ⟨A0_2, m0_2, d0_2, x0_2, e0_2, z0_2, r0_2, f0_2⟩ := open_sl (ec := encApiAssign) (wf := wfApiAssign) (k := 4) Tryz.underlying24 (by kernel_rfl) (by kernel_rfl) (fun _ _ _ hh => el_ApiAssign hh) g0_3
  obtain rfl : c0_2 = .slice A0_2 m0_2 d0_2 := by simpa using e0_2
  obtain ⟨_, _, g0_4⟩ := field_at (j := 3) (ty := 25) (off := 3) (k := 1) Tryz.underlying28 (by kernel_rfl) (by kernel_rfl) k0
  obtain ⟨A0_3, m0_3, d0_3, x0_3, e0_3, z0_3, r0_3, f0_3⟩ := open_sl (ec := encApiEmptying) (wf := wfApiEmptying) (k := 7) Tryz.underlying25 (by kernel_rfl) (by kernel_rfl) (fun _ _ _ hh => el_ApiEmptying hh) g0_4
  obtain rfl : c0_3 = .slice A0_3 m0_3 d0_3 := by simpa using e0_3
  obtain ⟨_, _, g0_5⟩ := field_at (j := 4) (ty := 26) (off := 4) (k := 1) Tryz.underlying28 (by kernel_rfl) (by kernel_rfl) k0
  obtain ⟨A0_4, m0_4, d0_4, x0_4, e0_4, z0_4, r0_4, f0_4⟩ := open_sl (ec := encApiTariff) (wf := wfApiTariff) (k := 5) Tryz.underlying26 (by kernel_rfl) (by kernel_rfl) (fun _ _ _ hh => el_ApiTariff hh) g0_5
  obtain rfl : c0_4 = .slice A0_4 m0_4 d0_4 := by simpa using e0_4
  obtain ⟨_, _, g0_6⟩ := field_at (j := 5) (ty := 3) (off := 5) (k := 1) Tryz.underlying28 (by kernel_rfl) (by kernel_rfl) k0
  obtain ⟨n0_5, rfl, w0_5⟩ := intK_of (v := c0_5) Tryz.underlying3 g0_6
  have f0_5 := bounds_i64 w0_5
  obtain ⟨x1, rfl, w1⟩ := par_int Tryz.underlying3 (hval 1 3 v1 rfl rfl) h1
  have f1 := bounds_i64 w1
  obtain ⟨cs2, rfl, _, _, k2⟩ := par_agg Tryz.underlying49 (hval 2 49 v2 rfl rfl) h2
  obtain ⟨x2, rfl, f2⟩ := el_ApiWindow k2
  refine (m_recyclinglaw59_AuditMade_ok 40000 W (⟨x0_0, x0_1, x0_2, x0_3, x0_4, n0_5⟩ : ApiAccount) x1 x2 A0_0 m0_0 d0_0 A0_1 m0_1 d0_1 A0_2 m0_2 d0_2 A0_3 m0_3 d0_3 A0_4 m0_4 d0_4 r0_0 z0_0 r0_1 z0_1 r0_2 z0_2 r0_3 z0_3 r0_4 z0_4 (tab_of_laid hL) true (lawMade_eq (⟨x0_0, x0_1, x0_2, x0_3, x0_4, n0_5⟩ : ApiAccount) x1 x2)).mono fun e W' ⟨_, he, hb⟩ => ?_
  subst he
  exact ⟨_, rfl, law_post hW' rfl (by rw [Tryz.params4]; intro t ht; simp at ht; (first | (rcases ht with rfl | rfl | rfl | rfl) | (rcases ht with rfl | rfl | rfl) | (rcases ht with rfl | rfl) | subst ht) <;> exact ⟨by kernel_rfl, of_decide_eq_true (by kernel_rfl)⟩) ⟨rfl, rfl, rfl⟩ (by kernel_rfl) hb.old⟩

theorem laid_met (os : Os) : laidMet Tryz.prog Rows.auditMadeRow.laid ((laidWorld os).forCall (fun _ _ => 0) ⟨#[], #[.agg #[.slice none 0 0, .slice none 0 0, .slice none 0 0, .slice none 0 0, .slice none 0 0, .int .i64 0], .int .i64 0, .agg #[.int .i64 0, .int .i64 0]], []⟩).memory :=
  laidMet_of_run' 8 (by kernel_rfl) (by kernel_rfl)
theorem reads (os : Os) {H : Type} (enc : TypeId × Value → H) : ∃ places, DataW.whole enc Tryz.prog ((laidWorld os).forCall (fun _ _ => 0) ⟨#[], #[.agg #[.slice none 0 0, .slice none 0 0, .slice none 0 0, .slice none 0 0, .slice none 0 0, .int .i64 0], .int .i64 0, .agg #[.int .i64 0, .int .i64 0]], []⟩).memory Tryz.f4.params.toList Rows.auditMadeSpec.vars false (#[.agg #[.slice none 0 0, .slice none 0 0, .slice none 0 0, .slice none 0 0, .slice none 0 0, .int .i64 0], .int .i64 0, .agg #[.int .i64 0, .int .i64 0]] : Array Value).toList 8 = some ([.agg [.nil, .nil, .nil, .nil, .nil, .lit (.int .i64 0)], .lit (.int .i64 0), .agg [.lit (.int .i64 0), .lit (.int .i64 0)]], [], places) :=
  ⟨[], by kernel_rfl⟩

set_option maxRecDepth 100000 in
theorem lifted (os : Os) (started : os.Started) (H : Type) (enc : TypeId × Value → H) (F : Stop.Interp) :
    ReturnsInHanded {} Tryz.checked os 4 .any ((OpenSpec.ofChange Rows.auditMadeSpec).preRow enc Tryz.prog Tryz.f4 Rows.auditMadeRow.domain false Rows.auditMadeRow.laid) (((OpenSpec.ofChange Rows.auditMadeSpec).at F).post enc Tryz.prog Tryz.f4 false true false false) := by
  obtain ⟨places, hx⟩ := reads os enc
  refine returnsInHanded_of_row (C := Tryz.checked) (s := OpenSpec.ofChange Rows.auditMadeSpec) own started (by kernel_rfl) Tryz.func4
    (witness_row_at (enc := enc) (C := Tryz.checked) false (laidWorld os) #[.agg #[.slice none 0 0, .slice none 0 0, .slice none 0 0, .slice none 0 0, .slice none 0 0, .int .i64 0], .int .i64 0, .agg #[.int .i64 0, .int .i64 0]] rfl (by kernel_rfl) (by kernel_rfl) (by kernel_rfl)
      (OpenSpec.preRow_of_cond 8 hx (by kernel_rfl) (fun k hk => by cases hk) (by kernel_rfl) (laid_met os))) ?_
  intro W base args ds gs before hval hW _ _ _ hL _ _
  exact contract H enc W base args ds gs before hval hW hL

theorem said : Rows.AuditMadeSaid :=
  OpenClaim.holds_of_cond 4 Tryz.f4 rfl rfl rfl rfl rfl rfl rfl ⟨rfl, rfl, rfl, rfl, rfl⟩ rfl rfl rfl rfl rfl (by kernel_rfl) Tryz.func4 (by kernel_rfl)
    (of_decide_eq_true (by kernel_rfl)) (by unfold Func.isWrapper; first | (rw [if_pos (by decide +kernel)]; kernel_rfl) | (rw [if_neg (by decide +kernel)]; exact ⟨rfl, rfl⟩))
    (fun os started H enc _ F => by rw [OpenClaim.pre_eq_preRow]; exact lifted os started H enc F)

theorem plain (f : FuncId) (fn : Func) (hf : Tryz.pinned.checked.prog.funcNamed "recycling/recyclinglaw59.AuditMade" = some f) (hfn : Tryz.pinned.checked.prog.funcs[f]? = some fn) :
    false = Tryz.pinned.checked.prog.looks [] ∧ ∀ (j : Nat) t, fn.params[j]? = some t → Tryz.pinned.checked.prog.wantsStandIn t = false := by
  obtain rfl : f = 4 := Option.some.inj ((show Tryz.prog.funcNamed "recycling/recyclinglaw59.AuditMade" = some 4 by kernel_rfl).symm.trans hf) |>.symm
  obtain rfl : fn = Tryz.f4 := (Option.some.inj (Tryz.func4.symm.trans hfn)).symm
  refine ⟨by kernel_rfl, fun j t ht => ?_⟩
  rw [Tryz.params4] at ht
  have hm := Array.mem_of_getElem? ht
  simp at hm
  (first | (rcases hm with rfl | rfl | rfl | rfl) | (rcases hm with rfl | rfl | rfl) | (rcases hm with rfl | rfl) | subst hm) <;> exact (show Tryz.prog.wantsStandIn _ = false by kernel_rfl)

theorem card : Rows.AuditMadeCardSaid :=
  Claim7.holds_tied_plain_at .later [] _ _ _ _ said (fun _ h => by cases h) (by kernel_rfl) (fun _ h => by cases h) auditMade_row_tie rfl ⟨rfl, rfl⟩ (by kernel_rfl) rfl plain (by kernel_rfl)
end Go.Proofs.YtbnimhmoffchdaaGreatDoor.auditMade
