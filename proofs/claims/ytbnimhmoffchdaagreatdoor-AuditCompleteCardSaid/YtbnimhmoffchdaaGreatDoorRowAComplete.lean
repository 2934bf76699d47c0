/- Proved: for every input, recyclinglaw59.AuditComplete returns true and its arguments read as before. No condition. -/
import Derived.Test.YtbnimhmoffchdaaGreatDoorCards
import Derived.Test.YtbnimhmoffchdaaGreatDoorTie
import Derived.Test.YtbnimhmoffchdaaGreatDoorAuT
import Derived.Test.YtbnimhmoffchdaaGreatDoorAudOpenC
import Derived.Test.YtbnimhmoffchdaaGreatDoorALaid
namespace Go.Proofs.YtbnimhmoffchdaaGreatDoor.auditComplete
open Go.ChangeShapes Go.WideShapes Go.ChangeAt Go.RowKit Go.Deep

set_option maxRecDepth 100000 in
theorem contract (H : Type) (enc : TypeId × Value → H) (W : World) (base : Nat) (args : Array Value) (ds gs : List (DataW H)) (before : List MemPlace)
  (hval : ∀ (j : Nat) t v, Tryz.f5.params[j]? = some t → args[j]? = some v → Value.okWide Tryz.prog W .any base t v)
  (hW : DataW.Whole enc Tryz.prog Tryz.f5.params.toList Rows.auditCompleteSpec.vars false W args.toList ds gs before) (hL : laidMetH Tryz.prog laidList W) :
  Calls Tryz.prog 5 args W fun e W' => ∃ v, e = .returned v ∧ Rows.auditCompleteSpec.post enc Tryz.prog Tryz.f5 false true false false W args v W' := by
 have hW' := hW
 obtain ⟨p, q, hA0, hV, rfl, hfz, hnd⟩ := hW
 have hA : DataW.TrodAll enc Tryz.prog W 0 (fun _ => true) true Tryz.f5.params.toList args.toList ds p := hA0
 rw [Tryz.params5] at hA hval
 obtain ⟨v0, vs0, d0, ds0, p0, q0, hargs, rfl, rfl, h0, r0'⟩ := trodAll_cons hA
 obtain ⟨rfl, rfl, rfl⟩ := trodAll_nil r0'
 obtain rfl : args = #[v0] := by cases args; simp_all
 obtain ⟨rfl, rfl⟩ := trodVars_none hV
 obtain ⟨cs0, rfl, _, _, k0⟩ := par_agg Tryz.underlying40 (hval 0 40 v0 rfl rfl) h0
 have l0 : cs0.length = 19 := (struct_len Tryz.underlying40 k0).trans (by kernel_rfl)
 obtain ⟨c0_0, c0_1, c0_2, c0_3, c0_4, c0_5, c0_6, c0_7, c0_8, c0_9, c0_10, c0_11, c0_12, c0_13, c0_14, c0_15, c0_16, c0_17, c0_18, rfl⟩ : ∃ c0_0 c0_1 c0_2 c0_3 c0_4 c0_5 c0_6 c0_7 c0_8 c0_9 c0_10 c0_11 c0_12 c0_13 c0_14 c0_15 c0_16 c0_17 c0_18, cs0 = [c0_0, c0_1, c0_2, c0_3, c0_4, c0_5, c0_6, c0_7, c0_8, c0_9, c0_10, c0_11, c0_12, c0_13, c0_14, c0_15, c0_16, c0_17, c0_18] := by
  match cs0, l0 with
  | [a0, a1, a2, a3, a4, a5, a6, a7, a8, a9, a10, a11, a12, a13, a14, a15, a16, a17, a18], _ => exact ⟨a0, a1, a2, a3, a4, a5, a6, a7, a8, a9, a10, a11, a12, a13, a14, a15, a16, a17, a18, rfl⟩
 obtain ⟨n0_0, rfl, w0_0⟩ := fi c0_0 0 0 Tryz.underlying40 k0
 have f0_0 := bounds_i64 w0_0
 obtain ⟨_, _, g0_2⟩ := fa 1 28 1 6 Tryz.underlying40 k0
 obtain ⟨_, _, g0_3⟩ := fa 0 22 0 1 Tryz.underlying28 g0_2
 obtain ⟨A0_1, m0_1, d0_1, x0_1, e0_1, z0_1, r0_1, f0_1⟩ := open_sl (ec := encApiHousehold) (wf := wfApiHousehold) (k := 2) Tryz.underlying22 (by kernel_rfl) (by kernel_rfl) (fun _ _ _ hh => el_ApiHousehold hh) g0_3
 obtain rfl : c0_1 = .slice A0_1 m0_1 d0_1 := by simpa using e0_1
 obtain ⟨_, _, g0_4⟩ := fa 1 23 1 1 Tryz.underlying28 g0_2
 obtain ⟨A0_2, m0_2, d0_2, x0_2, e0_2, z0_2, r0_2, f0_2⟩ := open_sl (ec := encApiContainer) (wf := wfApiContainer) (k := 5) Tryz.underlying23 (by kernel_rfl) (by kernel_rfl) (fun _ _ _ hh => el_ApiContainer hh) g0_4
 obtain rfl : c0_2 = .slice A0_2 m0_2 d0_2 := by simpa using e0_2
 obtain ⟨_, _, g0_5⟩ := fa 2 24 2 1 Tryz.underlying28 g0_2
 obtain ⟨A0_3, m0_3, d0_3, x0_3, e0_3, z0_3, r0_3, f0_3⟩ := open_sl (ec := encApiAssign) (wf := wfApiAssign) (k := 4) Tryz.underlying24 (by kernel_rfl) (by kernel_rfl) (fun _ _ _ hh => el_ApiAssign hh) g0_5
 obtain rfl : c0_3 = .slice A0_3 m0_3 d0_3 := by simpa using e0_3
 obtain ⟨_, _, g0_6⟩ := fa 3 25 3 1 Tryz.underlying28 g0_2
 obtain ⟨A0_4, m0_4, d0_4, x0_4, e0_4, z0_4, r0_4, f0_4⟩ := open_sl (ec := encApiEmptying) (wf := wfApiEmptying) (k := 7) Tryz.underlying25 (by kernel_rfl) (by kernel_rfl) (fun _ _ _ hh => el_ApiEmptying hh) g0_6
 obtain rfl : c0_4 = .slice A0_4 m0_4 d0_4 := by simpa using e0_4
 obtain ⟨_, _, g0_7⟩ := fa 4 26 4 1 Tryz.underlying28 g0_2
 obtain ⟨A0_5, m0_5, d0_5, x0_5, e0_5, z0_5, r0_5, f0_5⟩ := open_sl (ec := encApiTariff) (wf := wfApiTariff) (k := 5) Tryz.underlying26 (by kernel_rfl) (by kernel_rfl) (fun _ _ _ hh => el_ApiTariff hh) g0_7
 obtain rfl : c0_5 = .slice A0_5 m0_5 d0_5 := by simpa using e0_5
 obtain ⟨n0_6, rfl, w0_6⟩ := fi c0_6 5 5 Tryz.underlying28 g0_2
 have f0_6 := bounds_i64 w0_6
 obtain ⟨_, _, g0_9⟩ := fa 2 29 7 1 Tryz.underlying40 k0
 obtain ⟨A0_7, m0_7, d0_7, x0_7, e0_7, z0_7, r0_7, f0_7⟩ := open_sl (ec := encApiTransfer) (wf := wfApiTransfer) (k := 4) Tryz.underlying29 (by kernel_rfl) (by kernel_rfl) (fun _ _ _ hh => el_ApiTransfer hh) g0_9
 obtain rfl : c0_7 = .slice A0_7 m0_7 d0_7 := by simpa using e0_7
 obtain ⟨n0_8, rfl, w0_8⟩ := fi c0_8 3 8 Tryz.underlying40 k0
 have f0_8 := bounds_i64 w0_8
 obtain ⟨n0_9, rfl, w0_9⟩ := fi c0_9 4 9 Tryz.underlying40 k0
 have f0_9 := bounds_i64 w0_9
 obtain ⟨_, _, g0_12⟩ := fa 5 30 10 1 Tryz.underlying40 k0
 obtain ⟨A0_10, m0_10, d0_10, x0_10, D0_10, e0_10, z0_10, r0_10, f0_10⟩ := open_slN (ec := encApiBale) (wf := wfApiBale _) (k := 4) Tryz.underlying30 (by kernel_rfl) (by kernel_rfl) (fun _ _ _ hh => el_ApiBale hh) g0_12
 obtain rfl : c0_10 = .slice A0_10 m0_10 d0_10 := by simpa using e0_10
 obtain ⟨_, _, g0_13⟩ := fa 6 31 11 1 Tryz.underlying40 k0
 obtain ⟨A0_11, m0_11, d0_11, x0_11, e0_11, z0_11, r0_11, f0_11⟩ := open_sl (ec := encApiProduct) (wf := wfApiProduct) (k := 5) Tryz.underlying31 (by kernel_rfl) (by kernel_rfl) (fun _ _ _ hh => el_ApiProduct hh) g0_13
 obtain rfl : c0_11 = .slice A0_11 m0_11 d0_11 := by simpa using e0_11
 obtain ⟨_, _, g0_14⟩ := fa 7 32 12 1 Tryz.underlying40 k0
 obtain ⟨A0_12, m0_12, d0_12, x0_12, e0_12, z0_12, r0_12, f0_12⟩ := open_sl (ec := encApiSale) (wf := wfApiSale) (k := 5) Tryz.underlying32 (by kernel_rfl) (by kernel_rfl) (fun _ _ _ hh => el_ApiSale hh) g0_14
 obtain rfl : c0_12 = .slice A0_12 m0_12 d0_12 := by simpa using e0_12
 obtain ⟨_, _, g0_15⟩ := fa 8 33 13 1 Tryz.underlying40 k0
 obtain ⟨A0_13, m0_13, d0_13, x0_13, e0_13, z0_13, r0_13, f0_13⟩ := open_sl (ec := encApiClaim) (wf := wfApiClaim) (k := 5) Tryz.underlying33 (by kernel_rfl) (by kernel_rfl) (fun _ _ _ hh => el_ApiClaim hh) g0_15
 obtain rfl : c0_13 = .slice A0_13 m0_13 d0_13 := by simpa using e0_13
 obtain ⟨_, _, g0_16⟩ := fa 9 34 14 1 Tryz.underlying40 k0
 obtain ⟨A0_14, m0_14, d0_14, x0_14, e0_14, z0_14, r0_14, f0_14⟩ := open_sl (ec := encApiPayout) (wf := wfApiPayout) (k := 7) Tryz.underlying34 (by kernel_rfl) (by kernel_rfl) (fun _ _ _ hh => el_ApiPayout hh) g0_16
 obtain rfl : c0_14 = .slice A0_14 m0_14 d0_14 := by simpa using e0_14
 obtain ⟨_, _, g0_17⟩ := fa 10 35 15 1 Tryz.underlying40 k0
 obtain ⟨A0_15, m0_15, d0_15, x0_15, e0_15, z0_15, r0_15, f0_15⟩ := open_sl (ec := encI) (wf := (fun x : Int => I64 x)) (k := 1) Tryz.underlying35 (by kernel_rfl) (by kernel_rfl) (fun _ _ _ hh => el_int3 hh) g0_17
 obtain rfl : c0_15 = .slice A0_15 m0_15 d0_15 := by simpa using e0_15
 obtain ⟨_, _, g0_18⟩ := fa 11 36 16 1 Tryz.underlying40 k0
 obtain ⟨A0_16, m0_16, d0_16, x0_16, e0_16, z0_16, r0_16, f0_16⟩ := open_sl (ec := encApiFee) (wf := wfApiFee) (k := 3) Tryz.underlying36 (by kernel_rfl) (by kernel_rfl) (fun _ _ _ hh => el_ApiFee hh) g0_18
 obtain rfl : c0_16 = .slice A0_16 m0_16 d0_16 := by simpa using e0_16
 obtain ⟨_, _, g0_19⟩ := fa 12 37 17 1 Tryz.underlying40 k0
 obtain ⟨A0_17, m0_17, d0_17, x0_17, D0_17, e0_17, z0_17, r0_17, f0_17⟩ := open_slN (ec := encApiBill) (wf := wfApiBill _) (k := 6) Tryz.underlying37 (by kernel_rfl) (by kernel_rfl) (fun _ _ _ hh => el_ApiBill hh) g0_19
 obtain rfl : c0_17 = .slice A0_17 m0_17 d0_17 := by simpa using e0_17
 obtain ⟨_, _, g0_20⟩ := fa 13 38 18 1 Tryz.underlying40 k0
 obtain ⟨A0_18, m0_18, d0_18, x0_18, D0_18, e0_18, z0_18, r0_18, f0_18⟩ := open_slN (ec := encApiPosting) (wf := wfApiPosting _) (k := 3) Tryz.underlying38 (by kernel_rfl) (by kernel_rfl) (fun _ _ _ hh => el_ApiPosting hh) g0_20
 obtain rfl : c0_18 = .slice A0_18 m0_18 d0_18 := by simpa using e0_18
 refine (m_recyclinglaw59_AuditComplete_ok 40000 W (⟨n0_0, ⟨x0_1, x0_2, x0_3, x0_4, x0_5, n0_6⟩, x0_7, n0_8, n0_9, x0_10, x0_11, x0_12, x0_13, x0_14, x0_15, x0_16, x0_17, x0_18⟩ : ApiBooks) A0_1 m0_1 d0_1 A0_2 m0_2 d0_2 A0_3 m0_3 d0_3 A0_4 m0_4 d0_4 A0_5 m0_5 d0_5 A0_7 m0_7 d0_7 A0_10 m0_10 d0_10 D0_10 A0_11 m0_11 d0_11 A0_12 m0_12 d0_12 A0_13 m0_13 d0_13 A0_14 m0_14 d0_14 A0_15 m0_15 d0_15 A0_16 m0_16 d0_16 A0_17 m0_17 d0_17 D0_17 A0_18 m0_18 d0_18 D0_18 r0_1 z0_1 r0_2 z0_2 r0_3 z0_3 r0_4 z0_4 r0_5 z0_5 r0_7 z0_7 r0_10 z0_10 (fun i hi => (f0_10 i hi).1) r0_11 z0_11 r0_12 z0_12 r0_13 z0_13 r0_14 z0_14 r0_15 z0_15 r0_16 z0_16 r0_17 z0_17 (fun i hi => (f0_17 i hi).1) r0_18 z0_18 (fun i hi => (f0_18 i hi).1) (tab_of_laid hL) true (lawComplete_eq (⟨n0_0, ⟨x0_1, x0_2, x0_3, x0_4, x0_5, n0_6⟩, x0_7, n0_8, n0_9, x0_10, x0_11, x0_12, x0_13, x0_14, x0_15, x0_16, x0_17, x0_18⟩ : ApiBooks) (fun y hy => (f0_14 y hy).1))).mono fun e W' ⟨_, he, hb⟩ => ?_
 subst he
 exact ⟨_, rfl, law_post hW' rfl (by rw [Tryz.params5]; intro t ht; simp at ht; (first | (rcases ht with rfl | rfl | rfl | rfl) | (rcases ht with rfl | rfl | rfl) | (rcases ht with rfl | rfl) | subst ht) <;> exact ⟨by kernel_rfl, of_decide_eq_true (by kernel_rfl)⟩) ⟨rfl, rfl, rfl⟩ (by kernel_rfl) hb.old⟩

theorem laid_met (os : Os) : laidMet Tryz.prog Rows.auditCompleteRow.laid ((laidWorld os).forCall (fun _ _ => 0) ⟨#[], #[.agg #[.int .i64 0, .slice none 0 0, .slice none 0 0, .slice none 0 0, .slice none 0 0, .slice none 0 0, .int .i64 0, .slice none 0 0, .int .i64 0, .int .i64 0, .slice none 0 0, .slice none 0 0, .slice none 0 0, .slice none 0 0, .slice none 0 0, .slice none 0 0, .slice none 0 0, .slice none 0 0, .slice none 0 0]], []⟩).memory :=
 laidMet_of_run' 8 (by kernel_rfl) (by kernel_rfl)
theorem reads (os : Os) {H : Type} (enc : TypeId × Value → H) : ∃ places, DataW.whole enc Tryz.prog ((laidWorld os).forCall (fun _ _ => 0) ⟨#[], #[.agg #[.int .i64 0, .slice none 0 0, .slice none 0 0, .slice none 0 0, .slice none 0 0, .slice none 0 0, .int .i64 0, .slice none 0 0, .int .i64 0, .int .i64 0, .slice none 0 0, .slice none 0 0, .slice none 0 0, .slice none 0 0, .slice none 0 0, .slice none 0 0, .slice none 0 0, .slice none 0 0, .slice none 0 0]], []⟩).memory Tryz.f5.params.toList Rows.auditCompleteSpec.vars false (#[.agg #[.int .i64 0, .slice none 0 0, .slice none 0 0, .slice none 0 0, .slice none 0 0, .slice none 0 0, .int .i64 0, .slice none 0 0, .int .i64 0, .int .i64 0, .slice none 0 0, .slice none 0 0, .slice none 0 0, .slice none 0 0, .slice none 0 0, .slice none 0 0, .slice none 0 0, .slice none 0 0, .slice none 0 0]] : Array Value).toList 8 = some ([.agg [.lit (.int .i64 0), .agg [.nil, .nil, .nil, .nil, .nil, .lit (.int .i64 0)], .nil, .lit (.int .i64 0), .lit (.int .i64 0), .nil, .nil, .nil, .nil, .nil, .nil, .nil, .nil, .nil]], [], places) :=
 ⟨[], by kernel_rfl⟩

set_option maxRecDepth 100000 in
theorem lifted (os : Os) (started : os.Started) (H : Type) (enc : TypeId × Value → H) (F : Stop.Interp) :
  ReturnsInHanded {} Tryz.checked os 5 .any ((OpenSpec.ofChange Rows.auditCompleteSpec).preRow enc Tryz.prog Tryz.f5 Rows.auditCompleteRow.domain false Rows.auditCompleteRow.laid) (((OpenSpec.ofChange Rows.auditCompleteSpec).at F).post enc Tryz.prog Tryz.f5 false true false false) := by
 obtain ⟨places, hx⟩ := reads os enc
 refine returnsInHanded_of_row (C := Tryz.checked) (s := OpenSpec.ofChange Rows.auditCompleteSpec) own started (by kernel_rfl) Tryz.func5
  (witness_row_at (enc := enc) (C := Tryz.checked) false (laidWorld os) #[.agg #[.int .i64 0, .slice none 0 0, .slice none 0 0, .slice none 0 0, .slice none 0 0, .slice none 0 0, .int .i64 0, .slice none 0 0, .int .i64 0, .int .i64 0, .slice none 0 0, .slice none 0 0, .slice none 0 0, .slice none 0 0, .slice none 0 0, .slice none 0 0, .slice none 0 0, .slice none 0 0, .slice none 0 0]] rfl (by kernel_rfl) (by kernel_rfl) (by kernel_rfl)
    (OpenSpec.preRow_of_cond 8 hx (by kernel_rfl) (fun k hk => by cases hk) (by kernel_rfl) (laid_met os))) ?_
 intro W base args ds gs before hval hW _ _ _ hL _ _
 exact contract H enc W base args ds gs before hval hW hL

theorem said : Rows.AuditCompleteSaid :=
 OpenClaim.holds_of_cond 5 Tryz.f5 rfl rfl rfl rfl rfl rfl rfl ⟨rfl, rfl, rfl, rfl, rfl⟩ rfl rfl rfl rfl rfl (by kernel_rfl) Tryz.func5 (by kernel_rfl)
  (of_decide_eq_true (by kernel_rfl)) (by unfold Func.isWrapper; first | (rw [if_pos (by decide +kernel)]; kernel_rfl) | (rw [if_neg (by decide +kernel)]; exact ⟨rfl, rfl⟩))
  (fun os started H enc _ F => by rw [OpenClaim.pre_eq_preRow]; exact lifted os started H enc F)

theorem plain (f : FuncId) (fn : Func) (hf : Tryz.pinned.checked.prog.funcNamed "recycling/recyclinglaw59.AuditComplete" = some f) (hfn : Tryz.pinned.checked.prog.funcs[f]? = some fn) :
  false = Tryz.pinned.checked.prog.looks [] ∧ ∀ (j : Nat) t, fn.params[j]? = some t → Tryz.pinned.checked.prog.wantsStandIn t = false := by
 obtain rfl : f = 5 := Option.some.inj ((show Tryz.prog.funcNamed "recycling/recyclinglaw59.AuditComplete" = some 5 by kernel_rfl).symm.trans hf) |>.symm
 obtain rfl : fn = Tryz.f5 := (Option.some.inj (Tryz.func5.symm.trans hfn)).symm
 refine ⟨by kernel_rfl, fun j t ht => ?_⟩
 rw [Tryz.params5] at ht
 have hm := Array.mem_of_getElem? ht
 simp at hm
 (first | (rcases hm with rfl | rfl | rfl | rfl) | (rcases hm with rfl | rfl | rfl) | (rcases hm with rfl | rfl) | subst hm) <;> exact (show Tryz.prog.wantsStandIn _ = false by kernel_rfl)

theorem card : Rows.AuditCompleteCardSaid :=
 Claim7.holds_tied_plain_at .later [] _ _ _ _ said (fun _ h => by cases h) (by kernel_rfl) (fun _ h => by cases h) auditComplete_row_tie rfl ⟨rfl, rfl⟩ (by kernel_rfl) rfl plain (by kernel_rfl)
end Go.Proofs.YtbnimhmoffchdaaGreatDoor.auditComplete
