/- Models of functions, and that the code follows them. Written by deco.py. -/
import Derived.Test.YtljogldcejcikaaGreatZCmp7
namespace Go.Proofs.YtljogldcejcikaaGreat
open Go.RowKit

theorem op_eqApiRuling {e : Env} {w : World} {d : Option Tmp} {ty : TypeId} {ps : String} {af : Array Edge} {g : Option (Nat × Bool)} {x y : Operand} (a b : ApiRuling) (hx : eev e x = .agg (encApiRuling a).toArray) (hy : eev e y = .agg (encApiRuling b).toArray) : OpV Tryz.prog e w ⟨d, .binOp .eql 42 x y 42, ty, ps, af, g⟩ (.bool (decide (a = b))) :=
 op_eqFlat (cs := encApiRuling a) (ds := encApiRuling b) hx hy Tryz.underlying42 (by kernel_rfl) (by kernel_rfl) (by kernel_rfl) (by cases a; cases b; simp [celsEq, celEq, encApiRuling])
theorem op_neApiRuling {e : Env} {w : World} {d : Option Tmp} {ty : TypeId} {ps : String} {af : Array Edge} {g : Option (Nat × Bool)} {x y : Operand} (a b : ApiRuling) (hx : eev e x = .agg (encApiRuling a).toArray) (hy : eev e y = .agg (encApiRuling b).toArray) : OpV Tryz.prog e w ⟨d, .binOp .neq 42 x y 42, ty, ps, af, g⟩ (.bool (decide (a ≠ b))) := by
 have h := op_neqFlat (t' := 42) (d := d) (ty := ty) (ps := ps) (af := af) (g := g) (w := w) (cs := encApiRuling a) (ds := encApiRuling b) (b := decide (a = b)) hx hy Tryz.underlying42 (by kernel_rfl) (by kernel_rfl) (by kernel_rfl) (by cases a; cases b; simp [celsEq, celEq, encApiRuling])
 rwa [← decide_not] at h
/-- recyclinglaw57.sample -/
def m_recyclinglaw57_sample (_N : Nat)  : Option (ApiAccount × ApiBill) :=
 some (((ApiAccount.mk ([(ApiHousehold.mk (⟨#[104]⟩ : ByteArray) 1)]) ([(ApiContainer.mk (⟨#[99]⟩ : ByteArray) 0 120 60000 0)]) ([(ApiAssign.mk 0 0 (ApiWindow.mk 0 3155760000))]) ([(ApiEmptying.mk 9 0 0 2592000 (ApiSpan.mk 12300 13900) false)]) ([(ApiTariff.mk 0 10 150 20 5)]) 0), (ApiBill.mk 4 0 (ApiWindow.mk 28 33) ([(ApiItem.mk 1 0 5 10 50), (ApiItem.mk 2 9 1 150 150), (ApiItem.mk 3 9 7 20 140)]) 340)))
set_option maxRecDepth 20000 in
theorem m_recyclinglaw57_sample_ok (N : Nat) (w0 : World)    (r : ApiAccount × ApiBill) (hr : m_recyclinglaw57_sample N  = some r) :
  Calls Tryz.prog 8 [].toArray w0 fun x w1 => ∃ u, x = .returned ((fun (r : ApiAccount × ApiBill) (u : (Option Addr) × Nat × Nat × (Option Addr) × Nat × Nat × (Option Addr) × Nat × Nat × (Option Addr) × Nat × Nat × (Option Addr) × Nat × Nat × (Option Addr) × Nat × Nat) => .tuple #[.agg #[.slice u.1 u.2.1 u.2.2.1, .slice u.2.2.2.1 u.2.2.2.2.1 u.2.2.2.2.2.1, .slice u.2.2.2.2.2.2.1 u.2.2.2.2.2.2.2.1 u.2.2.2.2.2.2.2.2.1, .slice u.2.2.2.2.2.2.2.2.2.1 u.2.2.2.2.2.2.2.2.2.2.1 u.2.2.2.2.2.2.2.2.2.2.2.1, .slice u.2.2.2.2.2.2.2.2.2.2.2.2.1 u.2.2.2.2.2.2.2.2.2.2.2.2.2.1 u.2.2.2.2.2.2.2.2.2.2.2.2.2.2.1, .int .i64 r.1.Gap], .agg #[.int .i64 r.2.ID, .int .i64 r.2.Household, .int .i64 r.2.When.From, .int .i64 r.2.When.To, .slice u.2.2.2.2.2.2.2.2.2.2.2.2.2.2.2.1 u.2.2.2.2.2.2.2.2.2.2.2.2.2.2.2.2.1 u.2.2.2.2.2.2.2.2.2.2.2.2.2.2.2.2.2, .int .i64 r.2.Total]]) r u) ∧ Hs w0 ((fun (r : ApiAccount × ApiBill) (u : (Option Addr) × Nat × Nat × (Option Addr) × Nat × Nat × (Option Addr) × Nat × Nat × (Option Addr) × Nat × Nat × (Option Addr) × Nat × Nat × (Option Addr) × Nat × Nat) => [ownE 47 2 encApiHousehold u.1 u.2.1 u.2.2.1 r.1.Households, ownE 49 5 encApiContainer u.2.2.2.1 u.2.2.2.2.1 u.2.2.2.2.2.1 r.1.Containers, ownE 81 4 encApiAssign u.2.2.2.2.2.2.1 u.2.2.2.2.2.2.2.1 u.2.2.2.2.2.2.2.2.1 r.1.Assigns, ownE 55 7 encApiEmptying u.2.2.2.2.2.2.2.2.2.1 u.2.2.2.2.2.2.2.2.2.2.1 u.2.2.2.2.2.2.2.2.2.2.2.1 r.1.Emptyings, ownE 64 5 encApiTariff u.2.2.2.2.2.2.2.2.2.2.2.2.1 u.2.2.2.2.2.2.2.2.2.2.2.2.2.1 u.2.2.2.2.2.2.2.2.2.2.2.2.2.2.1 r.1.Tariffs, ownE 66 5 encApiItem u.2.2.2.2.2.2.2.2.2.2.2.2.2.2.2.1 u.2.2.2.2.2.2.2.2.2.2.2.2.2.2.2.2.1 u.2.2.2.2.2.2.2.2.2.2.2.2.2.2.2.2.2 r.2.Items]) r u) w1 := by
 refine calls_cm (n := 25) (R := fun r x w1 => ∃ u, x = .returned ((fun (r : ApiAccount × ApiBill) (u : (Option Addr) × Nat × Nat × (Option Addr) × Nat × Nat × (Option Addr) × Nat × Nat × (Option Addr) × Nat × Nat × (Option Addr) × Nat × Nat × (Option Addr) × Nat × Nat) => .tuple #[.agg #[.slice u.1 u.2.1 u.2.2.1, .slice u.2.2.2.1 u.2.2.2.2.1 u.2.2.2.2.2.1, .slice u.2.2.2.2.2.2.1 u.2.2.2.2.2.2.2.1 u.2.2.2.2.2.2.2.2.1, .slice u.2.2.2.2.2.2.2.2.2.1 u.2.2.2.2.2.2.2.2.2.2.1 u.2.2.2.2.2.2.2.2.2.2.2.1, .slice u.2.2.2.2.2.2.2.2.2.2.2.2.1 u.2.2.2.2.2.2.2.2.2.2.2.2.2.1 u.2.2.2.2.2.2.2.2.2.2.2.2.2.2.1, .int .i64 r.1.Gap], .agg #[.int .i64 r.2.ID, .int .i64 r.2.Household, .int .i64 r.2.When.From, .int .i64 r.2.When.To, .slice u.2.2.2.2.2.2.2.2.2.2.2.2.2.2.2.1 u.2.2.2.2.2.2.2.2.2.2.2.2.2.2.2.2.1 u.2.2.2.2.2.2.2.2.2.2.2.2.2.2.2.2.2, .int .i64 r.2.Total]]) r u) ∧ Hs w0 ((fun (r : ApiAccount × ApiBill) (u : (Option Addr) × Nat × Nat × (Option Addr) × Nat × Nat × (Option Addr) × Nat × Nat × (Option Addr) × Nat × Nat × (Option Addr) × Nat × Nat × (Option Addr) × Nat × Nat) => [ownE 47 2 encApiHousehold u.1 u.2.1 u.2.2.1 r.1.Households, ownE 49 5 encApiContainer u.2.2.2.1 u.2.2.2.2.1 u.2.2.2.2.2.1 r.1.Containers, ownE 81 4 encApiAssign u.2.2.2.2.2.2.1 u.2.2.2.2.2.2.2.1 u.2.2.2.2.2.2.2.2.1 r.1.Assigns, ownE 55 7 encApiEmptying u.2.2.2.2.2.2.2.2.2.1 u.2.2.2.2.2.2.2.2.2.2.1 u.2.2.2.2.2.2.2.2.2.2.2.1 r.1.Emptyings, ownE 64 5 encApiTariff u.2.2.2.2.2.2.2.2.2.2.2.2.1 u.2.2.2.2.2.2.2.2.2.2.2.2.2.1 u.2.2.2.2.2.2.2.2.2.2.2.2.2.2.1 r.1.Tariffs, ownE 66 5 encApiItem u.2.2.2.2.2.2.2.2.2.2.2.2.2.2.2.1 u.2.2.2.2.2.2.2.2.2.2.2.2.2.2.2.2.1 u.2.2.2.2.2.2.2.2.2.2.2.2.2.2.2.2.2 r.2.Items]) r u) w1) Tryz.func8 rfl rfl (Nat.le_of_ble_eq_true rfl) ?_ r hr
 unfold m_recyclinglaw57_sample
 refine cq ?_
 refine cr ?_
 refine lm_alloc 0 [.slice none 0 0, .slice none 0 0, .slice none 0 0, .slice none 0 0, .slice none 0 0, .int .i64 0] (v := .agg #[.slice none 0 0, .slice none 0 0, .slice none 0 0, .slice none 0 0, .slice none 0 0, .int .i64 0]) (by kernel_rfl) (by kernel_rfl) rfl ?_
 intro b5
 refine lm_alloc 1 [.int .i64 0, .int .i64 0, .int .i64 0, .int .i64 0, .slice none 0 0, .int .i64 0] (v := .agg #[.int .i64 0, .int .i64 0, .int .i64 0, .int .i64 0, .slice none 0 0, .int .i64 0]) (by kernel_rfl) (by kernel_rfl) rfl ?_
 intro b6
 refine ln ?_
 refine xn ?_
 refine cq ?_
 refine cr ?_
 refine lv 4 (by kernel_rfl) (fun w1 c1 => (op_build (z := [.string (⟨#[]⟩ : ByteArray), .int .i64 0]) (tab := [(0, 1), (1, 1)]) (cs := [.string _, .int .i64 _]) [(0, [.string _]), (1, [.int .i64 _])] (by kernel_rfl) (by kernel_rfl) (fillOk_cons rfl rfl rfl (fillOk_cons rfl rfl rfl fillOk_nil)) rfl)) ?_
 refine lm_slice1 5 (el := 47) (sz := 2) (bytes := 24) (enc := encApiHousehold) (ApiHousehold.mk (⟨#[104]⟩ : ByteArray) 1) (by kernel_rfl) (by kernel_rfl) encApiHousehold_len rfl (by kernel_rfl) ?_
 intro A7 n8 k9 h10
 refine lv 6 (by kernel_rfl) (fun w1 c1 => (op_build (z := [.string (⟨#[]⟩ : ByteArray), .int .i64 0, .int .i64 0, .int .i64 0, .int .i64 0]) (tab := [(0, 1), (1, 1), (2, 1), (3, 1), (4, 1)]) (cs := [.string _, .int .i64 _, .int .i64 _, .int .i64 _, .int .i64 _]) [(0, [.string _]), (2, [.int .i64 _]), (3, [.int .i64 _])] (by kernel_rfl) (by kernel_rfl) (fillOk_cons rfl rfl rfl (fillOk_cons rfl rfl rfl (fillOk_cons rfl rfl rfl fillOk_nil))) rfl)) ?_
 refine lm_slice1 7 (el := 49) (sz := 5) (bytes := 48) (enc := encApiContainer) (ApiContainer.mk (⟨#[99]⟩ : ByteArray) 0 120 60000 0) (by kernel_rfl) (by kernel_rfl) encApiContainer_len rfl (by kernel_rfl) ?_
 intro A11 n12 k13 h14
 refine lv 8 (by kernel_rfl) (fun w1 c1 => (op_build (z := [.int .i64 0, .int .i64 0]) (tab := [(0, 1), (1, 1)]) (cs := [.int .i64 _, .int .i64 _]) [(0, [.int .i64 _]), (1, [.int .i64 _])] (by kernel_rfl) (by kernel_rfl) (fillOk_cons rfl rfl rfl (fillOk_cons rfl rfl rfl fillOk_nil)) rfl)) ?_
 refine lv 9 (by kernel_rfl) (fun w1 c1 => (op_build (z := [.int .i64 0, .int .i64 0, .int .i64 0, .int .i64 0]) (tab := [(0, 1), (1, 1), (2, 2)]) (cs := [.int .i64 _, .int .i64 _, .int .i64 _, .int .i64 _]) [(2, [.int .i64 _, .int .i64 _])] (by kernel_rfl) (by kernel_rfl) (fillOk_cons rfl rfl rfl fillOk_nil) rfl)) ?_
 refine lm_slice1 10 (el := 81) (sz := 4) (bytes := 32) (enc := encApiAssign) (ApiAssign.mk 0 0 (ApiWindow.mk 0 3155760000)) (by kernel_rfl) (by kernel_rfl) encApiAssign_len rfl (by kernel_rfl) ?_
 intro A15 n16 k17 h18
 refine lv 11 (by kernel_rfl) (fun w1 c1 => (op_build (z := [.int .i64 0, .int .i64 0]) (tab := [(0, 1), (1, 1)]) (cs := [.int .i64 _, .int .i64 _]) [(0, [.int .i64 _]), (1, [.int .i64 _])] (by kernel_rfl) (by kernel_rfl) (fillOk_cons rfl rfl rfl (fillOk_cons rfl rfl rfl fillOk_nil)) rfl)) ?_
 refine lv 12 (by kernel_rfl) (fun w1 c1 => (op_build (z := [.int .i64 0, .int .i64 0, .int .i64 0, .int .i64 0, .int .i64 0, .int .i64 0, .bool false]) (tab := [(0, 1), (1, 1), (2, 1), (3, 1), (4, 2), (6, 1)]) (cs := [.int .i64 _, .int .i64 _, .int .i64 _, .int .i64 _, .int .i64 _, .int .i64 _, .bool false]) [(0, [.int .i64 _]), (3, [.int .i64 _]), (4, [.int .i64 _, .int .i64 _])] (by kernel_rfl) (by kernel_rfl) (fillOk_cons rfl rfl rfl (fillOk_cons rfl rfl rfl (fillOk_cons rfl rfl rfl fillOk_nil))) rfl)) ?_
 refine lm_slice1 13 (el := 55) (sz := 7) (bytes := 56) (enc := encApiEmptying) (ApiEmptying.mk 9 0 0 2592000 (ApiSpan.mk 12300 13900) false) (by kernel_rfl) (by kernel_rfl) encApiEmptying_len rfl (by kernel_rfl) ?_
 intro A19 n20 k21 h22
 refine lv 14 (by kernel_rfl) (fun w1 c1 => (op_build (z := [.int .i64 0, .int .i64 0, .int .i64 0, .int .i64 0, .int .i64 0]) (tab := [(0, 1), (1, 1), (2, 1), (3, 1), (4, 1)]) (cs := [.int .i64 _, .int .i64 _, .int .i64 _, .int .i64 _, .int .i64 _]) [(1, [.int .i64 _]), (2, [.int .i64 _]), (3, [.int .i64 _]), (4, [.int .i64 _])] (by kernel_rfl) (by kernel_rfl) (fillOk_cons rfl rfl rfl (fillOk_cons rfl rfl rfl (fillOk_cons rfl rfl rfl (fillOk_cons rfl rfl rfl fillOk_nil)))) rfl)) ?_
 refine lm_slice1 15 (el := 64) (sz := 5) (bytes := 40) (enc := encApiTariff) (ApiTariff.mk 0 10 150 20 5) (by kernel_rfl) (by kernel_rfl) encApiTariff_len rfl (by kernel_rfl) ?_
 intro A23 n24 k25 h26
 refine lv 16 (by kernel_rfl) (fun w1 c1 => (op_build (z := [.slice none 0 0, .slice none 0 0, .slice none 0 0, .slice none 0 0, .slice none 0 0, .int .i64 0]) (tab := [(0, 1), (1, 1), (2, 1), (3, 1), (4, 1), (5, 1)]) (cs := [.slice _ _ _, .slice _ _ _, .slice _ _ _, .slice _ _ _, .slice _ _ _, .int .i64 _]) [(0, [.slice _ _ _]), (1, [.slice _ _ _]), (2, [.slice _ _ _]), (3, [.slice _ _ _]), (4, [.slice _ _ _])] (by kernel_rfl) (by kernel_rfl) (fillOk_cons rfl rfl rfl (fillOk_cons rfl rfl rfl (fillOk_cons rfl rfl rfl (fillOk_cons rfl rfl rfl (fillOk_cons rfl rfl rfl fillOk_nil))))) rfl)) ?_
 refine lm_alloc 2 [.slice none 0 0, .slice none 0 0, .slice none 0 0, .slice none 0 0, .slice none 0 0, .int .i64 0] (v := .agg #[.slice none 0 0, .slice none 0 0, .slice none 0 0, .slice none 0 0, .slice none 0 0, .int .i64 0]) (by kernel_rfl) (by kernel_rfl) rfl ?_
 intro b27
 refine lm_storeA 0 [.slice _ _ _, .slice _ _ _, .slice _ _ _, .slice _ _ _, .slice _ _ _, .int .i64 _] [_, _, _, _, _, _] (H' := [blkE _ _ [_, _, _, _, _, _], _, _, _, _, _, _, _]) (by kernel_rfl) rfl rfl (by kernel_rfl) rfl rfl (by kernel_rfl) rfl rfl ?_
 refine ln ?_
 refine xn ?_
 refine cq ?_
 refine cr ?_
 refine lv 17 (by kernel_rfl) (fun w1 c1 => (op_build (z := [.int .i64 0, .int .i64 0]) (tab := [(0, 1), (1, 1)]) (cs := [.int .i64 _, .int .i64 _]) [(0, [.int .i64 _]), (1, [.int .i64 _])] (by kernel_rfl) (by kernel_rfl) (fillOk_cons rfl rfl rfl (fillOk_cons rfl rfl rfl fillOk_nil)) rfl)) ?_
 refine lv 18 (by kernel_rfl) (fun w1 c1 => (op_build (z := [.int .i64 0, .int .i64 0, .int .i64 0, .int .i64 0, .int .i64 0]) (tab := [(0, 1), (1, 1), (2, 1), (3, 1), (4, 1)]) (cs := [.int .i64 _, .int .i64 _, .int .i64 _, .int .i64 _, .int .i64 _]) [(0, [.int .i64 _]), (2, [.int .i64 _]), (3, [.int .i64 _]), (4, [.int .i64 _])] (by kernel_rfl) (by kernel_rfl) (fillOk_cons rfl rfl rfl (fillOk_cons rfl rfl rfl (fillOk_cons rfl rfl rfl (fillOk_cons rfl rfl rfl fillOk_nil)))) rfl)) ?_
 refine lv 19 (by kernel_rfl) (fun w1 c1 => (op_build (z := [.int .i64 0, .int .i64 0, .int .i64 0, .int .i64 0, .int .i64 0]) (tab := [(0, 1), (1, 1), (2, 1), (3, 1), (4, 1)]) (cs := [.int .i64 _, .int .i64 _, .int .i64 _, .int .i64 _, .int .i64 _]) [(0, [.int .i64 _]), (1, [.int .i64 _]), (2, [.int .i64 _]), (3, [.int .i64 _]), (4, [.int .i64 _])] (by kernel_rfl) (by kernel_rfl) (fillOk_cons rfl rfl rfl (fillOk_cons rfl rfl rfl (fillOk_cons rfl rfl rfl (fillOk_cons rfl rfl rfl (fillOk_cons rfl rfl rfl fillOk_nil))))) rfl)) ?_
 refine lv 20 (by kernel_rfl) (fun w1 c1 => (op_build (z := [.int .i64 0, .int .i64 0, .int .i64 0, .int .i64 0, .int .i64 0]) (tab := [(0, 1), (1, 1), (2, 1), (3, 1), (4, 1)]) (cs := [.int .i64 _, .int .i64 _, .int .i64 _, .int .i64 _, .int .i64 _]) [(0, [.int .i64 _]), (1, [.int .i64 _]), (2, [.int .i64 _]), (3, [.int .i64 _]), (4, [.int .i64 _])] (by kernel_rfl) (by kernel_rfl) (fillOk_cons rfl rfl rfl (fillOk_cons rfl rfl rfl (fillOk_cons rfl rfl rfl (fillOk_cons rfl rfl rfl (fillOk_cons rfl rfl rfl fillOk_nil))))) rfl)) ?_
 refine lm_sliceN 21 (el := 66) (sz := 5) (bytes := 40) (enc := encApiItem) [(ApiItem.mk 1 0 5 10 50), (ApiItem.mk 2 9 1 150 150), (ApiItem.mk 3 9 7 20 140)] (by kernel_rfl) (by kernel_rfl) encApiItem_len rfl ⟨rfl, rfl, ⟨rfl, rfl, ⟨rfl, rfl, trivial⟩⟩⟩ (by kernel_rfl) (by kernel_rfl) ?_
 intro A28 n29 k30 h31
 refine lv 22 (by kernel_rfl) (fun w1 c1 => (op_build (z := [.int .i64 0, .int .i64 0, .int .i64 0, .int .i64 0, .slice none 0 0, .int .i64 0]) (tab := [(0, 1), (1, 1), (2, 2), (4, 1), (5, 1)]) (cs := [.int .i64 _, .int .i64 _, .int .i64 _, .int .i64 _, .slice _ _ _, .int .i64 _]) [(0, [.int .i64 _]), (2, [.int .i64 _, .int .i64 _]), (4, [.slice _ _ _]), (5, [.int .i64 _])] (by kernel_rfl) (by kernel_rfl) (fillOk_cons rfl rfl rfl (fillOk_cons rfl rfl rfl (fillOk_cons rfl rfl rfl (fillOk_cons rfl rfl rfl fillOk_nil)))) rfl)) ?_
 refine lm_alloc 3 [.int .i64 0, .int .i64 0, .int .i64 0, .int .i64 0, .slice none 0 0, .int .i64 0] (v := .agg #[.int .i64 0, .int .i64 0, .int .i64 0, .int .i64 0, .slice none 0 0, .int .i64 0]) (by kernel_rfl) (by kernel_rfl) rfl ?_
 intro b32
 refine lm_storeA 0 [.int .i64 _, .int .i64 _, .int .i64 _, .int .i64 _, .slice _ _ _, .int .i64 _] [_, _, _, _, _, _] (H' := [blkE _ _ [_, _, _, _, _, _], _, _, _, _, _, _, _, _, _]) (by kernel_rfl) rfl rfl (by kernel_rfl) rfl rfl (by kernel_rfl) rfl rfl ?_
 refine ln ?_
 refine xn ?_
 refine cq ?_
 refine cm_held (ξ := Unit) (fun u41 => [(0, .pointer (some ⟨b5, 0, none⟩)), (1, .pointer (some ⟨b6, 0, none⟩))]) (fun u41 => [blkE b5 28 [.slice A7 n8 k9, .slice A11 n12 k13, .slice A15 n16 k17, .slice A19 n20 k21, .slice A23 n24 k25, .int .i64 0], ownE 47 2 encApiHousehold A7 n8 k9 ([(ApiHousehold.mk (⟨#[104]⟩ : ByteArray) 1)]), ownE 49 5 encApiContainer A11 n12 k13 ([(ApiContainer.mk (⟨#[99]⟩ : ByteArray) 0 120 60000 0)]), ownE 81 4 encApiAssign A15 n16 k17 ([(ApiAssign.mk 0 0 (ApiWindow.mk 0 3155760000))]), ownE 55 7 encApiEmptying A19 n20 k21 ([(ApiEmptying.mk 9 0 0 2592000 (ApiSpan.mk 12300 13900) false)]), ownE 64 5 encApiTariff A23 n24 k25 ([(ApiTariff.mk 0 10 150 20 5)]), blkE b6 33 [.int .i64 4, .int .i64 0, .int .i64 28, .int .i64 33, .slice A28 n29 k30, .int .i64 340], ownE 66 5 encApiItem A28 n29 k30 ([(ApiItem.mk 1 0 5 10 50), (ApiItem.mk 2 9 1 150 150), (ApiItem.mk 3 9 7 20 140)])]) [blkE b32 33 [.int .i64 4, .int .i64 0, .int .i64 28, .int .i64 33, .slice A28 n29 k30, .int .i64 340], ownE 66 5 encApiItem A28 n29 k30 ([(ApiItem.mk 1 0 5 10 50), (ApiItem.mk 2 9 1 150 150), (ApiItem.mk 3 9 7 20 140)]), blkE b27 28 [.slice A7 n8 k9, .slice A11 n12 k13, .slice A15 n16 k17, .slice A19 n20 k21, .slice A23 n24 k25, .int .i64 0], ownE 64 5 encApiTariff A23 n24 k25 ([(ApiTariff.mk 0 10 150 20 5)]), ownE 55 7 encApiEmptying A19 n20 k21 ([(ApiEmptying.mk 9 0 0 2592000 (ApiSpan.mk 12300 13900) false)]), ownE 81 4 encApiAssign A15 n16 k17 ([(ApiAssign.mk 0 0 (ApiWindow.mk 0 3155760000))]), ownE 49 5 encApiContainer A11 n12 k13 ([(ApiContainer.mk (⟨#[99]⟩ : ByteArray) 0 120 60000 0)]), ownE 47 2 encApiHousehold A7 n8 k9 ([(ApiHousehold.mk (⟨#[104]⟩ : ByteArray) 1)])] 4 (by kernel_rfl) (by rfl) (hsub [0, 1, 2, 3, 4, 5, 6, 7] (by kernel_rfl) (by rfl)) ?_ ?_
 ·intro w43 c44
  refine wh_take 0 23 rfl (by kernel_rfl) (by kernel_rfl) (fun w2 c2 => (op_loadR [.slice _ _ _, .slice _ _ _, .slice _ _ _, .slice _ _ _, .slice _ _ _, .int .i64 _] rfl (by kernel_rfl) (c2.cells 2 rfl rfl))) (hsub [0, 1, 2, 3, 4, 5, 6, 7] (by kernel_rfl) rfl _ c44) ?_
  refine wh_take 1 24 rfl (by kernel_rfl) (by kernel_rfl) (fun w2 c2 => (op_loadR [.int .i64 _, .int .i64 _, .int .i64 _, .int .i64 _, .slice _ _ _, .int .i64 _] rfl (by kernel_rfl) (c2.cells 0 rfl rfl))) (hsub [0, 1, 2, 3, 4, 5, 6, 7] (by kernel_rfl) rfl _ c44) ?_
  refine wh_ready [2] (by kernel_rfl) rfl ⟨?_, trivial⟩
  refine ws_storeA 9 [.slice _ _ _, .slice _ _ _, .slice _ _ _, .slice _ _ _, .slice _ _ _, .int .i64 _] [_, _, _, _, _, _] rfl (by kernel_rfl) rfl rfl (by kernel_rfl) rfl rfl (by kernel_rfl) rfl (H' := [_, _, _, _, _, _, _, _, _, blkE _ _ [_, _, _, _, _, _]]) rfl c44 ?_
  intro w45 c46
  refine ⟨(hsub [0, 1, 2, 3, 4, 5, 6, 7] (by kernel_rfl) rfl _ c46), ?_⟩
  refine wh_ready [3] (by kernel_rfl) rfl ⟨?_, trivial⟩
  refine ws_storeA 8 [.int .i64 _, .int .i64 _, .int .i64 _, .int .i64 _, .slice _ _ _, .int .i64 _] [_, _, _, _, _, _] rfl (by kernel_rfl) rfl rfl (by kernel_rfl) rfl rfl (by kernel_rfl) rfl (H' := [_, _, _, _, _, _, _, _, blkE _ _ [_, _, _, _, _, _], _]) rfl c46 ?_
  intro w47 c48
  refine ⟨(hsub [0, 1, 2, 3, 4, 5, 6, 7] (by kernel_rfl) rfl _ c48), ?_⟩
  exact wh_done () (by kernel_rfl) (sc (by kernel_rfl) rfl (sc (by kernel_rfl) rfl sub_nil)) (hsub [9, 7, 6, 5, 4, 3, 8, 1] (by kernel_rfl) rfl _ c48)
 intro u41
 refine xn ?_
 refine cm_ret ?_
 exact xm_retCC rfl (by kernel_rfl) (show _ = Value.pointer (some ⟨_, 0, none⟩) from rfl) (by kernel_rfl) (fun w1 c1 => c1.cells 0 (ds := [.slice _ _ _, .slice _ _ _, .slice _ _ _, .slice _ _ _, .slice _ _ _, .int .i64 _]) rfl rfl) (by kernel_rfl) (show _ = Value.pointer (some ⟨_, 0, none⟩) from rfl) (by kernel_rfl) (fun w1 c1 => c1.cells 6 (ds := [.int .i64 _, .int .i64 _, .int .i64 _, .int .i64 _, .slice _ _ _, .int .i64 _]) rfl rfl) fun w1 c1 => ⟨(A7, n8, k9, A11, n12, k13, A15, n16, k17, A19, n20, k21, A23, n24, k25, A28, n29, k30), rfl, hsub [1, 2, 3, 4, 5, 7] (by kernel_rfl) rfl w1 c1⟩
/-- recyclinglaw57.awake -/
def m_recyclinglaw57_awake (N : Nat)  : Option (Bool) :=
 Option.bind (m_recyclinglaw57_sample N) fun r5 => Option.bind (m_complaint_Decide N r5.1 r5.2 (ApiComplaint.mk 4 1 2937600 1) (30 : Int)) fun r10 => ck ((0 : Int) ≤ 0 ∧ 0 < (List.length r5.1.Emptyings : Int)) (
  Option.bind (m_complaint_Decide N (ApiAccount.mk r5.1.Households r5.1.Containers r5.1.Assigns (List.set r5.1.Emptyings (Int.toNat 0) (ApiEmptying.mk ((ix r5.1.Emptyings 0).ID) ((ix r5.1.Emptyings 0).Container) ((ix r5.1.Emptyings 0).Vehicle) ((ix r5.1.Emptyings 0).At) ((ix r5.1.Emptyings 0).Mass) true)) r5.1.Tariffs r5.1.Gap) r5.2 (ApiComplaint.mk 4 1 2937600 1) (30 : Int)) fun r14 => Option.bind (m_complaint_Apply N r5.2 (ApiComplaint.mk 4 1 2937600 1) r14.1) fun r17 => Option.bind (m_complaint_Rest N r17.1 (9 : Int)) fun r20 => Option.bind (m_complaint_Decide N (ApiAccount.mk r5.1.Households r5.1.Containers r5.1.Assigns (List.set r5.1.Emptyings (Int.toNat 0) (ApiEmptying.mk ((ix r5.1.Emptyings 0).ID) ((ix r5.1.Emptyings 0).Container) ((ix r5.1.Emptyings 0).Vehicle) ((ix r5.1.Emptyings 0).At) ((ix r5.1.Emptyings 0).Mass) true)) r5.1.Tariffs r5.1.Gap) r17.1 (ApiComplaint.mk 4 1 2937600 1) (30 : Int)) fun r22 => Option.bind (m_complaint_Rest N r5.2 (9 : Int)) fun r25 => callIf (((((((((((((decide (r10.1 = (ApiRuling.mk 0 13))) && (decide (r10.2 = 0))) && (decide (r14.1 = (ApiRuling.mk 290 0)))) && (decide (r14.2 = 0))) && (decide (r17.2 = 0))) && (decide (r17.1.Total = 50))) && (decide (r20.1 = 0))) && (decide (r20.2 = 0))) && (decide (r22.1 = (ApiRuling.mk 0 13)))) && (decide (r22.2 = 0))) && (decide (r25.1 = 290))) && (decide (r25.2 = 0))) = true) (m_complaint_Check N (ApiComplaint.mk 4 1 2937600 1)) fun r27 => callIf ((((((((((((((decide (r10.1 = (ApiRuling.mk 0 13))) && (decide (r10.2 = 0))) && (decide (r14.1 = (ApiRuling.mk 290 0)))) && (decide (r14.2 = 0))) && (decide (r17.2 = 0))) && (decide (r17.1.Total = 50))) && (decide (r20.1 = 0))) && (decide (r20.2 = 0))) && (decide (r22.1 = (ApiRuling.mk 0 13)))) && (decide (r22.2 = 0))) && (decide (r25.1 = 290))) && (decide (r25.2 = 0))) && (decide (r27 = 0))) = true) (m_complaint_Check N (ApiComplaint.mk 4 0 0 4)) fun r29 => some (((((((((((((((decide (r10.1 = (ApiRuling.mk 0 13))) && (decide (r10.2 = 0))) && (decide (r14.1 = (ApiRuling.mk 290 0)))) && (decide (r14.2 = 0))) && (decide (r17.2 = 0))) && (decide (r17.1.Total = 50))) && (decide (r20.1 = 0))) && (decide (r20.2 = 0))) && (decide (r22.1 = (ApiRuling.mk 0 13)))) && (decide (r22.2 = 0))) && (decide (r25.1 = 290))) && (decide (r25.2 = 0))) && (decide (r27 = 0))) && (decide (r29 = 21)))))
set_option maxHeartbeats 2000000 in
set_option maxRecDepth 20000 in
theorem m_recyclinglaw57_awake_ok (N : Nat) (w0 : World)    (r : Bool) (hr : m_recyclinglaw57_awake N  = some r) :
  Calls Tryz.prog 5 [].toArray w0 fun x w1 => ∃ u, x = .returned ((fun (r : Bool) (_u : Unit) => .bool r) r u) ∧ Hs w0 ((fun (_r : Bool) (_u : Unit) => []) r u) w1 := by
 refine calls_cm (n := 123) (R := fun r x w1 => ∃ u, x = .returned ((fun (r : Bool) (_u : Unit) => .bool r) r u) ∧ Hs w0 ((fun (_r : Bool) (_u : Unit) => []) r u) w1) Tryz.func5 rfl rfl (Nat.le_of_ble_eq_true rfl) ?_ r hr
 unfold m_recyclinglaw57_awake
 refine cq ?_
 refine cr ?_
 refine lv 0 (by kernel_rfl) (fun w1 c1 => (oa (v := .bool false) rfl)) ?_
 refine ln ?_
 refine xn ?_
 refine cq ?_
 refine cr ?_
 refine lm_call 17 (V := (fun (r : ApiAccount × ApiBill) (u : (Option Addr) × Nat × Nat × (Option Addr) × Nat × Nat × (Option Addr) × Nat × Nat × (Option Addr) × Nat × Nat × (Option Addr) × Nat × Nat × (Option Addr) × Nat × Nat) => .tuple #[.agg #[.slice u.1 u.2.1 u.2.2.1, .slice u.2.2.2.1 u.2.2.2.2.1 u.2.2.2.2.2.1, .slice u.2.2.2.2.2.2.1 u.2.2.2.2.2.2.2.1 u.2.2.2.2.2.2.2.2.1, .slice u.2.2.2.2.2.2.2.2.2.1 u.2.2.2.2.2.2.2.2.2.2.1 u.2.2.2.2.2.2.2.2.2.2.2.1, .slice u.2.2.2.2.2.2.2.2.2.2.2.2.1 u.2.2.2.2.2.2.2.2.2.2.2.2.2.1 u.2.2.2.2.2.2.2.2.2.2.2.2.2.2.1, .int .i64 r.1.Gap], .agg #[.int .i64 r.2.ID, .int .i64 r.2.Household, .int .i64 r.2.When.From, .int .i64 r.2.When.To, .slice u.2.2.2.2.2.2.2.2.2.2.2.2.2.2.2.1 u.2.2.2.2.2.2.2.2.2.2.2.2.2.2.2.2.1 u.2.2.2.2.2.2.2.2.2.2.2.2.2.2.2.2.2, .int .i64 r.2.Total]])) (HR := (fun (r : ApiAccount × ApiBill) (u : (Option Addr) × Nat × Nat × (Option Addr) × Nat × Nat × (Option Addr) × Nat × Nat × (Option Addr) × Nat × Nat × (Option Addr) × Nat × Nat × (Option Addr) × Nat × Nat) => [ownE 47 2 encApiHousehold u.1 u.2.1 u.2.2.1 r.1.Households, ownE 49 5 encApiContainer u.2.2.2.1 u.2.2.2.2.1 u.2.2.2.2.2.1 r.1.Containers, ownE 81 4 encApiAssign u.2.2.2.2.2.2.1 u.2.2.2.2.2.2.2.1 u.2.2.2.2.2.2.2.2.1 r.1.Assigns, ownE 55 7 encApiEmptying u.2.2.2.2.2.2.2.2.2.1 u.2.2.2.2.2.2.2.2.2.2.1 u.2.2.2.2.2.2.2.2.2.2.2.1 r.1.Emptyings, ownE 64 5 encApiTariff u.2.2.2.2.2.2.2.2.2.2.2.2.1 u.2.2.2.2.2.2.2.2.2.2.2.2.2.1 u.2.2.2.2.2.2.2.2.2.2.2.2.2.2.1 r.1.Tariffs, ownE 66 5 encApiItem u.2.2.2.2.2.2.2.2.2.2.2.2.2.2.2.1 u.2.2.2.2.2.2.2.2.2.2.2.2.2.2.2.2.1 u.2.2.2.2.2.2.2.2.2.2.2.2.2.2.2.2.2 r.2.Items])) (by kernel_rfl) (fun w1 => op_call (by kernel_rfl)) (fun r1 hr1 w1 c1 => m_recyclinglaw57_sample_ok N w1   r1 hr1) ?_
 intro r5 u6
 refine lv 16 (by kernel_rfl) (fun w1 c1 => (om (v := .tuple _) rfl)) ?_
 refine lv 18 (by kernel_rfl) (fun w1 c1 => (op_extract (v := .agg _) rfl rfl)) ?_
 refine lv 19 (by kernel_rfl) (fun w1 c1 => (op_extract (v := .agg _) rfl rfl)) ?_
 refine lm_alloc 1 [.slice none 0 0, .slice none 0 0, .slice none 0 0, .slice none 0 0, .slice none 0 0, .int .i64 0] (v := .agg #[.slice none 0 0, .slice none 0 0, .slice none 0 0, .slice none 0 0, .slice none 0 0, .int .i64 0]) (by kernel_rfl) (by kernel_rfl) rfl ?_
 intro b7
 refine lm_alloc 2 [.int .i64 0, .int .i64 0, .int .i64 0, .int .i64 0, .slice none 0 0, .int .i64 0] (v := .agg #[.int .i64 0, .int .i64 0, .int .i64 0, .int .i64 0, .slice none 0 0, .int .i64 0]) (by kernel_rfl) (by kernel_rfl) rfl ?_
 intro b8
 refine lm_storeA 1 [.slice _ _ _, .slice _ _ _, .slice _ _ _, .slice _ _ _, .slice _ _ _, .int .i64 _] [_, _, _, _, _, _] (H' := [_, blkE _ _ [_, _, _, _, _, _], _, _, _, _, _, _]) (by kernel_rfl) rfl rfl (by kernel_rfl) rfl rfl (by kernel_rfl) rfl rfl ?_
 refine lm_storeA 0 [.int .i64 _, .int .i64 _, .int .i64 _, .int .i64 _, .slice _ _ _, .int .i64 _] [_, _, _, _, _, _] (H' := [blkE _ _ [_, _, _, _, _, _], _, _, _, _, _, _, _]) (by kernel_rfl) rfl rfl (by kernel_rfl) rfl rfl (by kernel_rfl) rfl rfl ?_
 refine ln ?_
 refine xn ?_
 refine cq ?_
 refine cr ?_
 refine lv 20 (by kernel_rfl) (fun w1 c1 => (op_build (z := [.int .i64 0, .int .i64 0, .int .i64 0, .int .i64 0]) (tab := [(0, 1), (1, 1), (2, 1), (3, 1)]) (cs := [.int .i64 _, .int .i64 _, .int .i64 _, .int .i64 _]) [(0, [.int .i64 _]), (1, [.int .i64 _]), (2, [.int .i64 _]), (3, [.int .i64 _])] (by kernel_rfl) (by kernel_rfl) (fillOk_cons rfl rfl rfl (fillOk_cons rfl rfl rfl (fillOk_cons rfl rfl rfl (fillOk_cons rfl rfl rfl fillOk_nil)))) rfl)) ?_
 refine lm_alloc 3 [.int .i64 0, .int .i64 0, .int .i64 0, .int .i64 0] (v := .agg #[.int .i64 0, .int .i64 0, .int .i64 0, .int .i64 0]) (by kernel_rfl) (by kernel_rfl) rfl ?_
 intro b9
 refine lm_storeA 0 [.int .i64 _, .int .i64 _, .int .i64 _, .int .i64 _] [_, _, _, _] (H' := [blkE _ _ [_, _, _, _], _, _, _, _, _, _, _, _]) (by kernel_rfl) rfl rfl (by kernel_rfl) rfl rfl (by kernel_rfl) rfl rfl ?_
 refine ln ?_
 refine xn ?_
 refine cq ?_
 refine cr ?_
 refine lv 22 (by kernel_rfl) (fun w1 c1 => (op_loadR [.slice _ _ _, .slice _ _ _, .slice _ _ _, .slice _ _ _, .slice _ _ _, .int .i64 _] rfl (by kernel_rfl) (c1.cells 2 rfl rfl))) ?_
 refine lv 23 (by kernel_rfl) (fun w1 c1 => (op_loadR [.int .i64 _, .int .i64 _, .int .i64 _, .int .i64 _, .slice _ _ _, .int .i64 _] rfl (by kernel_rfl) (c1.cells 1 rfl rfl))) ?_
 refine lv 24 (by kernel_rfl) (fun w1 c1 => (op_loadR [.int .i64 _, .int .i64 _, .int .i64 _, .int .i64 _] rfl (by kernel_rfl) (c1.cells 0 rfl rfl))) ?_
 refine lm_call 25 (V := (fun (r : ApiRuling × Int) (_u : Unit) => .tuple #[.agg #[.int .i64 r.1.Credit, .int .i64 r.1.Err], .int .i64 r.2])) (HR := (fun (_r : ApiRuling × Int) (_u : Unit) => [])) (by kernel_rfl) (fun w1 => op_call (by kernel_rfl)) (fun r1 hr1 w1 c1 => m_complaint_Decide_ok N w1 r5.1 r5.2 (ApiComplaint.mk 4 1 2937600 1) (30 : Int) u6.1 u6.2.1 u6.2.2.1 u6.2.2.2.1 u6.2.2.2.2.1 u6.2.2.2.2.2.1 u6.2.2.2.2.2.2.1 u6.2.2.2.2.2.2.2.1 u6.2.2.2.2.2.2.2.2.1 u6.2.2.2.2.2.2.2.2.2.1 u6.2.2.2.2.2.2.2.2.2.2.1 u6.2.2.2.2.2.2.2.2.2.2.2.1 u6.2.2.2.2.2.2.2.2.2.2.2.2.1 u6.2.2.2.2.2.2.2.2.2.2.2.2.2.1 u6.2.2.2.2.2.2.2.2.2.2.2.2.2.2.1 u6.2.2.2.2.2.2.2.2.2.2.2.2.2.2.2.1 u6.2.2.2.2.2.2.2.2.2.2.2.2.2.2.2.2.1 u6.2.2.2.2.2.2.2.2.2.2.2.2.2.2.2.2.2 (c1.own 3 rfl encApiHousehold_len) (c1.ownZ 3 rfl) (c1.own 4 rfl encApiContainer_len) (c1.ownZ 4 rfl) (c1.own 5 rfl encApiAssign_len) (c1.ownZ 5 rfl) (c1.own 6 rfl encApiEmptying_len) (c1.ownZ 6 rfl) (c1.own 7 rfl encApiTariff_len) (c1.ownZ 7 rfl) (c1.own 8 rfl encApiItem_len) (c1.ownZ 8 rfl) r1 hr1) ?_
 intro r10 u11
 refine lv 21 (by kernel_rfl) (fun w1 c1 => (om (v := .tuple _) rfl)) ?_
 refine lv 26 (by kernel_rfl) (fun w1 c1 => (op_extract (v := .agg _) rfl rfl)) ?_
 refine lv 27 (by kernel_rfl) (fun w1 c1 => (op_extract (v := .int .i64 _) rfl rfl)) ?_
 refine lm_alloc 4 [.int .i64 0, .int .i64 0] (v := .agg #[.int .i64 0, .int .i64 0]) (by kernel_rfl) (by kernel_rfl) rfl ?_
 intro b12
 refine lm_storeA 0 [.int .i64 _, .int .i64 _] [_, _] (H' := [blkE _ _ [_, _], _, _, _, _, _, _, _, _, _]) (by kernel_rfl) rfl rfl (by kernel_rfl) rfl rfl (by kernel_rfl) rfl rfl ?_
 refine lv 5 (by kernel_rfl) (fun w1 c1 => (oa (v := .int .i64 _) rfl)) ?_
 refine ln ?_
 refine xn ?_
 refine cq ?_
 refine cr ?_
 refine lv 28 (by kernel_rfl) (fun w1 c1 => (oF (m := 3) (k := 3) rfl (by kernel_rfl) rfl)) ?_
 refine lv 29 (by kernel_rfl) (fun w1 c1 => (ol rfl (by kernel_rfl) (c1.cell 3 (u := .slice _ _ _) rfl rfl))) ?_
 refine lm_ck (fun h13 => ?_)
 refine lv 30 (by kernel_rfl) (fun w1 c1 => (op_indexA 7 rfl rfl (by kernel_rfl) ((c1.own 7 rfl encApiEmptying_len).addr h13.1 h13.2) (c1.ownZ 7 rfl).2.2 h13.1 h13.2)) ?_
 refine lv 31 (by kernel_rfl) (fun w1 c1 => (op_field (m := 6) rfl (by kernel_rfl))) ?_
 refine lm_storeIx 7 (ApiEmptying.mk ((ix r5.1.Emptyings 0).ID) ((ix r5.1.Emptyings 0).Container) ((ix r5.1.Emptyings 0).Vehicle) ((ix r5.1.Emptyings 0).At) ((ix r5.1.Emptyings 0).Mass) true) 6 [.bool true] (by kernel_rfl) rfl rfl (by kernel_rfl) rfl rfl rfl encApiEmptying_len encApiEmptying_one h13.1 h13.2 (by kernel_rfl) rfl ?_
 refine ln ?_
 refine xn ?_
 refine cq ?_
 refine cr ?_
 refine lv 33 (by kernel_rfl) (fun w1 c1 => (op_loadR [.slice _ _ _, .slice _ _ _, .slice _ _ _, .slice _ _ _, .slice _ _ _, .int .i64 _] rfl (by kernel_rfl) (c1.cells 3 rfl rfl))) ?_
 refine lv 34 (by kernel_rfl) (fun w1 c1 => (op_loadR [.int .i64 _, .int .i64 _, .int .i64 _, .int .i64 _, .slice _ _ _, .int .i64 _] rfl (by kernel_rfl) (c1.cells 2 rfl rfl))) ?_
 refine lv 35 (by kernel_rfl) (fun w1 c1 => (op_loadR [.int .i64 _, .int .i64 _, .int .i64 _, .int .i64 _] rfl (by kernel_rfl) (c1.cells 1 rfl rfl))) ?_
 refine lm_call 36 (V := (fun (r : ApiRuling × Int) (_u : Unit) => .tuple #[.agg #[.int .i64 r.1.Credit, .int .i64 r.1.Err], .int .i64 r.2])) (HR := (fun (_r : ApiRuling × Int) (_u : Unit) => [])) (by kernel_rfl) (fun w1 => op_call (by kernel_rfl)) (fun r1 hr1 w1 c1 => m_complaint_Decide_ok N w1 (ApiAccount.mk r5.1.Households r5.1.Containers r5.1.Assigns (List.set r5.1.Emptyings (Int.toNat 0) (ApiEmptying.mk ((ix r5.1.Emptyings 0).ID) ((ix r5.1.Emptyings 0).Container) ((ix r5.1.Emptyings 0).Vehicle) ((ix r5.1.Emptyings 0).At) ((ix r5.1.Emptyings 0).Mass) true)) r5.1.Tariffs r5.1.Gap) r5.2 (ApiComplaint.mk 4 1 2937600 1) (30 : Int) u6.1 u6.2.1 u6.2.2.1 u6.2.2.2.1 u6.2.2.2.2.1 u6.2.2.2.2.2.1 u6.2.2.2.2.2.2.1 u6.2.2.2.2.2.2.2.1 u6.2.2.2.2.2.2.2.2.1 u6.2.2.2.2.2.2.2.2.2.1 u6.2.2.2.2.2.2.2.2.2.2.1 u6.2.2.2.2.2.2.2.2.2.2.2.1 u6.2.2.2.2.2.2.2.2.2.2.2.2.1 u6.2.2.2.2.2.2.2.2.2.2.2.2.2.1 u6.2.2.2.2.2.2.2.2.2.2.2.2.2.2.1 u6.2.2.2.2.2.2.2.2.2.2.2.2.2.2.2.1 u6.2.2.2.2.2.2.2.2.2.2.2.2.2.2.2.2.1 u6.2.2.2.2.2.2.2.2.2.2.2.2.2.2.2.2.2 (c1.own 4 rfl encApiHousehold_len) (c1.ownZ 4 rfl) (c1.own 5 rfl encApiContainer_len) (c1.ownZ 5 rfl) (c1.own 6 rfl encApiAssign_len) (c1.ownZ 6 rfl) (c1.own 7 rfl encApiEmptying_len) (c1.ownZ 7 rfl) (c1.own 8 rfl encApiTariff_len) (c1.ownZ 8 rfl) (c1.own 9 rfl encApiItem_len) (c1.ownZ 9 rfl) r1 hr1) ?_
 intro r14 u15
 refine lv 32 (by kernel_rfl) (fun w1 c1 => (om (v := .tuple _) rfl)) ?_
 refine lv 37 (by kernel_rfl) (fun w1 c1 => (op_extract (v := .agg _) rfl rfl)) ?_
 refine lv 38 (by kernel_rfl) (fun w1 c1 => (op_extract (v := .int .i64 _) rfl rfl)) ?_
 refine lm_alloc 6 [.int .i64 0, .int .i64 0] (v := .agg #[.int .i64 0, .int .i64 0]) (by kernel_rfl) (by kernel_rfl) rfl ?_
 intro b16
 refine lm_storeA 0 [.int .i64 _, .int .i64 _] [_, _] (H' := [blkE _ _ [_, _], _, _, _, _, _, _, _, _, _, _]) (by kernel_rfl) rfl rfl (by kernel_rfl) rfl rfl (by kernel_rfl) rfl rfl ?_
 refine lv 7 (by kernel_rfl) (fun w1 c1 => (oa (v := .int .i64 _) rfl)) ?_
 refine ln ?_
 refine xn ?_
 refine cq ?_
 refine cr ?_
 refine lv 40 (by kernel_rfl) (fun w1 c1 => (op_loadR [.int .i64 _, .int .i64 _, .int .i64 _, .int .i64 _, .slice _ _ _, .int .i64 _] rfl (by kernel_rfl) (c1.cells 3 rfl rfl))) ?_
 refine lv 41 (by kernel_rfl) (fun w1 c1 => (op_loadR [.int .i64 _, .int .i64 _, .int .i64 _, .int .i64 _] rfl (by kernel_rfl) (c1.cells 2 rfl rfl))) ?_
 refine lv 42 (by kernel_rfl) (fun w1 c1 => (op_loadR [.int .i64 _, .int .i64 _] rfl (by kernel_rfl) (c1.cells 0 rfl rfl))) ?_
 refine lm_call 43 (V := (fun (r : ApiBill × Int) (u : (Option Addr) × Nat × Nat) => .tuple #[.agg #[.int .i64 r.1.ID, .int .i64 r.1.Household, .int .i64 r.1.When.From, .int .i64 r.1.When.To, .slice u.1 u.2.1 u.2.2, .int .i64 r.1.Total], .int .i64 r.2])) (HR := (fun (r : ApiBill × Int) (u : (Option Addr) × Nat × Nat) => [ownE 66 5 encApiItem u.1 u.2.1 u.2.2 r.1.Items])) (by kernel_rfl) (fun w1 => op_call (by kernel_rfl)) (fun r1 hr1 w1 c1 => m_complaint_Apply_ok N w1 r5.2 (ApiComplaint.mk 4 1 2937600 1) r14.1 u6.2.2.2.2.2.2.2.2.2.2.2.2.2.2.2.1 u6.2.2.2.2.2.2.2.2.2.2.2.2.2.2.2.2.1 u6.2.2.2.2.2.2.2.2.2.2.2.2.2.2.2.2.2 (c1.own 10 rfl encApiItem_len) (c1.ownZ 10 rfl) r1 hr1) ?_
 intro r17 u18
 refine lv 39 (by kernel_rfl) (fun w1 c1 => (om (v := .tuple _) rfl)) ?_
 refine lv 44 (by kernel_rfl) (fun w1 c1 => (op_extract (v := .agg _) rfl rfl)) ?_
 refine lv 45 (by kernel_rfl) (fun w1 c1 => (op_extract (v := .int .i64 _) rfl rfl)) ?_
 refine lm_alloc 8 [.int .i64 0, .int .i64 0, .int .i64 0, .int .i64 0, .slice none 0 0, .int .i64 0] (v := .agg #[.int .i64 0, .int .i64 0, .int .i64 0, .int .i64 0, .slice none 0 0, .int .i64 0]) (by kernel_rfl) (by kernel_rfl) rfl ?_
 intro b19
 refine lm_storeA 0 [.int .i64 _, .int .i64 _, .int .i64 _, .int .i64 _, .slice _ _ _, .int .i64 _] [_, _, _, _, _, _] (H' := [blkE _ _ [_, _, _, _, _, _], _, _, _, _, _, _, _, _, _, _, _, _]) (by kernel_rfl) rfl rfl (by kernel_rfl) rfl rfl (by kernel_rfl) rfl rfl ?_
 refine lv 9 (by kernel_rfl) (fun w1 c1 => (oa (v := .int .i64 _) rfl)) ?_
 refine ln ?_
 refine xn ?_
 refine cq ?_
 refine cr ?_
 refine lv 47 (by kernel_rfl) (fun w1 c1 => (op_loadR [.int .i64 _, .int .i64 _, .int .i64 _, .int .i64 _, .slice _ _ _, .int .i64 _] rfl (by kernel_rfl) (c1.cells 0 rfl rfl))) ?_
 refine lm_call 48 (V := (fun (r : Int × Int) (_u : Unit) => .tuple #[.int .i64 r.1, .int .i64 r.2])) (HR := (fun (_r : Int × Int) (_u : Unit) => [])) (by kernel_rfl) (fun w1 => op_call (by kernel_rfl)) (fun r1 hr1 w1 c1 => m_complaint_Rest_ok N w1 r17.1 (9 : Int) u18.1 u18.2.1 u18.2.2 (c1.own 1 rfl encApiItem_len) (c1.ownZ 1 rfl) r1 hr1) ?_
 intro r20 u21
 refine lv 46 (by kernel_rfl) (fun w1 c1 => (om (v := .tuple _) rfl)) ?_
 refine lv 49 (by kernel_rfl) (fun w1 c1 => (op_extract (v := .int .i64 _) rfl rfl)) ?_
 refine lv 50 (by kernel_rfl) (fun w1 c1 => (op_extract (v := .int .i64 _) rfl rfl)) ?_
 refine lv 10 (by kernel_rfl) (fun w1 c1 => (oa (v := .int .i64 _) rfl)) ?_
 refine lv 11 (by kernel_rfl) (fun w1 c1 => (oa (v := .int .i64 _) rfl)) ?_
 refine ln ?_
 refine xn ?_
 refine cq ?_
 refine cr ?_
 refine lv 52 (by kernel_rfl) (fun w1 c1 => (op_loadR [.slice _ _ _, .slice _ _ _, .slice _ _ _, .slice _ _ _, .slice _ _ _, .int .i64 _] rfl (by kernel_rfl) (c1.cells 6 rfl rfl))) ?_
 refine lv 53 (by kernel_rfl) (fun w1 c1 => (op_loadR [.int .i64 _, .int .i64 _, .int .i64 _, .int .i64 _, .slice _ _ _, .int .i64 _] rfl (by kernel_rfl) (c1.cells 0 rfl rfl))) ?_
 refine lv 54 (by kernel_rfl) (fun w1 c1 => (op_loadR [.int .i64 _, .int .i64 _, .int .i64 _, .int .i64 _] rfl (by kernel_rfl) (c1.cells 4 rfl rfl))) ?_
 refine lm_call 55 (V := (fun (r : ApiRuling × Int) (_u : Unit) => .tuple #[.agg #[.int .i64 r.1.Credit, .int .i64 r.1.Err], .int .i64 r.2])) (HR := (fun (_r : ApiRuling × Int) (_u : Unit) => [])) (by kernel_rfl) (fun w1 => op_call (by kernel_rfl)) (fun r1 hr1 w1 c1 => m_complaint_Decide_ok N w1 (ApiAccount.mk r5.1.Households r5.1.Containers r5.1.Assigns (List.set r5.1.Emptyings (Int.toNat 0) (ApiEmptying.mk ((ix r5.1.Emptyings 0).ID) ((ix r5.1.Emptyings 0).Container) ((ix r5.1.Emptyings 0).Vehicle) ((ix r5.1.Emptyings 0).At) ((ix r5.1.Emptyings 0).Mass) true)) r5.1.Tariffs r5.1.Gap) r17.1 (ApiComplaint.mk 4 1 2937600 1) (30 : Int) u6.1 u6.2.1 u6.2.2.1 u6.2.2.2.1 u6.2.2.2.2.1 u6.2.2.2.2.2.1 u6.2.2.2.2.2.2.1 u6.2.2.2.2.2.2.2.1 u6.2.2.2.2.2.2.2.2.1 u6.2.2.2.2.2.2.2.2.2.1 u6.2.2.2.2.2.2.2.2.2.2.1 u6.2.2.2.2.2.2.2.2.2.2.2.1 u6.2.2.2.2.2.2.2.2.2.2.2.2.1 u6.2.2.2.2.2.2.2.2.2.2.2.2.2.1 u6.2.2.2.2.2.2.2.2.2.2.2.2.2.2.1 u18.1 u18.2.1 u18.2.2 (c1.own 7 rfl encApiHousehold_len) (c1.ownZ 7 rfl) (c1.own 8 rfl encApiContainer_len) (c1.ownZ 8 rfl) (c1.own 9 rfl encApiAssign_len) (c1.ownZ 9 rfl) (c1.own 10 rfl encApiEmptying_len) (c1.ownZ 10 rfl) (c1.own 11 rfl encApiTariff_len) (c1.ownZ 11 rfl) (c1.own 1 rfl encApiItem_len) (c1.ownZ 1 rfl) r1 hr1) ?_
 intro r22 u23
 refine lv 51 (by kernel_rfl) (fun w1 c1 => (om (v := .tuple _) rfl)) ?_
 refine lv 56 (by kernel_rfl) (fun w1 c1 => (op_extract (v := .agg _) rfl rfl)) ?_
 refine lv 57 (by kernel_rfl) (fun w1 c1 => (op_extract (v := .int .i64 _) rfl rfl)) ?_
 refine lm_alloc 12 [.int .i64 0, .int .i64 0] (v := .agg #[.int .i64 0, .int .i64 0]) (by kernel_rfl) (by kernel_rfl) rfl ?_
 intro b24
 refine lm_storeA 0 [.int .i64 _, .int .i64 _] [_, _] (H' := [blkE _ _ [_, _], _, _, _, _, _, _, _, _, _, _, _, _, _]) (by kernel_rfl) rfl rfl (by kernel_rfl) rfl rfl (by kernel_rfl) rfl rfl ?_
 refine lv 13 (by kernel_rfl) (fun w1 c1 => (oa (v := .int .i64 _) rfl)) ?_
 refine ln ?_
 refine xn ?_
 refine cq ?_
 refine cr ?_
 refine lv 59 (by kernel_rfl) (fun w1 c1 => (op_loadR [.int .i64 _, .int .i64 _, .int .i64 _, .int .i64 _, .slice _ _ _, .int .i64 _] rfl (by kernel_rfl) (c1.cells 6 rfl rfl))) ?_
 refine lm_call 60 (V := (fun (r : Int × Int) (_u : Unit) => .tuple #[.int .i64 r.1, .int .i64 r.2])) (HR := (fun (_r : Int × Int) (_u : Unit) => [])) (by kernel_rfl) (fun w1 => op_call (by kernel_rfl)) (fun r1 hr1 w1 c1 => m_complaint_Rest_ok N w1 r5.2 (9 : Int) u6.2.2.2.2.2.2.2.2.2.2.2.2.2.2.2.1 u6.2.2.2.2.2.2.2.2.2.2.2.2.2.2.2.2.1 u6.2.2.2.2.2.2.2.2.2.2.2.2.2.2.2.2.2 (c1.own 13 rfl encApiItem_len) (c1.ownZ 13 rfl) r1 hr1) ?_
 intro r25 u26
 refine lv 58 (by kernel_rfl) (fun w1 c1 => (om (v := .tuple _) rfl)) ?_
 refine lv 61 (by kernel_rfl) (fun w1 c1 => (op_extract (v := .int .i64 _) rfl rfl)) ?_
 refine lv 62 (by kernel_rfl) (fun w1 c1 => (op_extract (v := .int .i64 _) rfl rfl)) ?_
 refine lv 14 (by kernel_rfl) (fun w1 c1 => (oa (v := .int .i64 _) rfl)) ?_
 refine lv 15 (by kernel_rfl) (fun w1 c1 => (oa (v := .int .i64 _) rfl)) ?_
 refine ln ?_
 refine xn ?_
 refine cq ?_
 refine cm_callIf fun r27 h28 => ?_
 refine cm_callIf fun r29 h30 => ?_
 refine cm_cutE [(0, .bool ((((((((((((((decide (r10.1 = (ApiRuling.mk 0 13))) && (decide (r10.2 = 0))) && (decide (r14.1 = (ApiRuling.mk 290 0)))) && (decide (r14.2 = 0))) && (decide (r17.2 = 0))) && (decide (r17.1.Total = 50))) && (decide (r20.1 = 0))) && (decide (r20.2 = 0))) && (decide (r22.1 = (ApiRuling.mk 0 13)))) && (decide (r22.2 = 0))) && (decide (r25.1 = 290))) && (decide (r25.2 = 0))) && (decide (r27 = 0))) && (decide (r29 = 21))))] ?_ ?_
 ·skip
  refine wv 63 (by kernel_rfl) (fun w1 c1 => (op_loadR [.int .i64 _, .int .i64 _] rfl (by kernel_rfl) (c1.cells 4 rfl rfl))) ?_
  refine wv 64 (by kernel_rfl) (fun w1 c1 => (op_build (z := [.int .i64 0, .int .i64 0]) (tab := [(0, 1), (1, 1)]) (cs := [.int .i64 _, .int .i64 _]) [(1, [.int .i64 _])] (by kernel_rfl) (by kernel_rfl) (fillOk_cons rfl rfl rfl fillOk_nil) rfl)) ?_
  refine wq_dec 65 (by kernel_rfl) (fun w1 c1 => (op_eqApiRuling r10.1 (ApiRuling.mk 0 13) rfl rfl)) (fun h31 => ?_) (fun h31 => ?_)
  ·skip
   refine wv 66 (by kernel_rfl) (fun w1 c1 => (om (v := .bool true) rfl)) ?_
   refine wv 67 (by kernel_rfl) (fun w1 c1 => (om (v := .int .i64 _) rfl)) ?_
   refine wq_dec 68 (by kernel_rfl) (fun w1 c1 => (op_eql rfl rfl)) (fun h32 => ?_) (fun h32 => ?_)
   ·skip
    refine wv 69 (by kernel_rfl) (fun w1 c1 => (opt (v := .bool true) rfl rfl)) ?_
    refine wv 70 (by kernel_rfl) (fun w1 c1 => (om (v := .bool true) rfl)) ?_
    refine wv 71 (by kernel_rfl) (fun w1 c1 => (op_loadR [.int .i64 _, .int .i64 _] rfl (by kernel_rfl) (c1.cells 3 rfl rfl))) ?_
    refine wv 72 (by kernel_rfl) (fun w1 c1 => (op_build (z := [.int .i64 0, .int .i64 0]) (tab := [(0, 1), (1, 1)]) (cs := [.int .i64 _, .int .i64 _]) [(0, [.int .i64 _])] (by kernel_rfl) (by kernel_rfl) (fillOk_cons rfl rfl rfl fillOk_nil) rfl)) ?_
    refine wq_dec 73 (by kernel_rfl) (fun w1 c1 => (op_eqApiRuling r14.1 (ApiRuling.mk 290 0) rfl rfl)) (fun h33 => ?_) (fun h33 => ?_)
    ·skip
     refine wv 74 (by kernel_rfl) (fun w1 c1 => (opt (v := .bool true) rfl rfl)) ?_
     refine wv 75 (by kernel_rfl) (fun w1 c1 => (om (v := .bool true) rfl)) ?_
     refine wv 76 (by kernel_rfl) (fun w1 c1 => (om (v := .int .i64 _) rfl)) ?_
     refine wq_dec 77 (by kernel_rfl) (fun w1 c1 => (op_eql rfl rfl)) (fun h34 => ?_) (fun h34 => ?_)
     ·skip
      refine wv 78 (by kernel_rfl) (fun w1 c1 => (opt (v := .bool true) rfl rfl)) ?_
      refine wv 79 (by kernel_rfl) (fun w1 c1 => (om (v := .bool true) rfl)) ?_
      refine wv 80 (by kernel_rfl) (fun w1 c1 => (om (v := .int .i64 _) rfl)) ?_
      refine wq_dec 81 (by kernel_rfl) (fun w1 c1 => (op_eql rfl rfl)) (fun h35 => ?_) (fun h35 => ?_)
      ·skip
       refine wv 82 (by kernel_rfl) (fun w1 c1 => (opt (v := .bool true) rfl rfl)) ?_
       refine wv 83 (by kernel_rfl) (fun w1 c1 => (om (v := .bool true) rfl)) ?_
       refine wv 84 (by kernel_rfl) (fun w1 c1 => (oF (m := 5) (k := 5) rfl (by kernel_rfl) rfl)) ?_
       refine wv 85 (by kernel_rfl) (fun w1 c1 => (ol rfl (by kernel_rfl) (c1.cell 1 (u := .int .i64 _) rfl rfl))) ?_
       refine wq_dec 86 (by kernel_rfl) (fun w1 c1 => (op_eql rfl rfl)) (fun h36 => ?_) (fun h36 => ?_)
       ·skip
        refine wv 87 (by kernel_rfl) (fun w1 c1 => (opt (v := .bool true) rfl rfl)) ?_
        refine wv 88 (by kernel_rfl) (fun w1 c1 => (om (v := .bool true) rfl)) ?_
        refine wv 89 (by kernel_rfl) (fun w1 c1 => (om (v := .int .i64 _) rfl)) ?_
        refine wq_dec 90 (by kernel_rfl) (fun w1 c1 => (op_eql rfl rfl)) (fun h37 => ?_) (fun h37 => ?_)
        ·skip
         refine wv 91 (by kernel_rfl) (fun w1 c1 => (opt (v := .bool true) rfl rfl)) ?_
         refine wv 92 (by kernel_rfl) (fun w1 c1 => (om (v := .bool true) rfl)) ?_
         refine wv 93 (by kernel_rfl) (fun w1 c1 => (om (v := .int .i64 _) rfl)) ?_
         refine wq_dec 94 (by kernel_rfl) (fun w1 c1 => (op_eql rfl rfl)) (fun h38 => ?_) (fun h38 => ?_)
         ·skip
          refine wv 95 (by kernel_rfl) (fun w1 c1 => (opt (v := .bool true) rfl rfl)) ?_
          refine wv 96 (by kernel_rfl) (fun w1 c1 => (om (v := .bool true) rfl)) ?_
          refine wv 97 (by kernel_rfl) (fun w1 c1 => (op_loadR [.int .i64 _, .int .i64 _] rfl (by kernel_rfl) (c1.cells 0 rfl rfl))) ?_
          refine wv 98 (by kernel_rfl) (fun w1 c1 => (op_build (z := [.int .i64 0, .int .i64 0]) (tab := [(0, 1), (1, 1)]) (cs := [.int .i64 _, .int .i64 _]) [(1, [.int .i64 _])] (by kernel_rfl) (by kernel_rfl) (fillOk_cons rfl rfl rfl fillOk_nil) rfl)) ?_
          refine wq_dec 99 (by kernel_rfl) (fun w1 c1 => (op_eqApiRuling r22.1 (ApiRuling.mk 0 13) rfl rfl)) (fun h39 => ?_) (fun h39 => ?_)
          ·skip
           refine wv 100 (by kernel_rfl) (fun w1 c1 => (opt (v := .bool true) rfl rfl)) ?_
           refine wv 101 (by kernel_rfl) (fun w1 c1 => (om (v := .bool true) rfl)) ?_
           refine wv 102 (by kernel_rfl) (fun w1 c1 => (om (v := .int .i64 _) rfl)) ?_
           refine wq_dec 103 (by kernel_rfl) (fun w1 c1 => (op_eql rfl rfl)) (fun h40 => ?_) (fun h40 => ?_)
           ·skip
            refine wv 104 (by kernel_rfl) (fun w1 c1 => (opt (v := .bool true) rfl rfl)) ?_
            refine wv 105 (by kernel_rfl) (fun w1 c1 => (om (v := .bool true) rfl)) ?_
            refine wv 106 (by kernel_rfl) (fun w1 c1 => (om (v := .int .i64 _) rfl)) ?_
            refine wq_dec 107 (by kernel_rfl) (fun w1 c1 => (op_eql rfl rfl)) (fun h41 => ?_) (fun h41 => ?_)
            ·skip
             refine wv 108 (by kernel_rfl) (fun w1 c1 => (opt (v := .bool true) rfl rfl)) ?_
             refine wv 109 (by kernel_rfl) (fun w1 c1 => (om (v := .bool true) rfl)) ?_
             refine wv 110 (by kernel_rfl) (fun w1 c1 => (om (v := .int .i64 _) rfl)) ?_
             refine wq_dec 111 (by kernel_rfl) (fun w1 c1 => (op_eql rfl rfl)) (fun h42 => ?_) (fun h42 => ?_)
             ·skip
              refine wv 112 (by kernel_rfl) (fun w1 c1 => (opt (v := .bool true) rfl rfl)) ?_
              refine wv 113 (by kernel_rfl) (fun w1 c1 => (om (v := .bool true) rfl)) ?_
              refine wv 114 (by kernel_rfl) (fun w1 c1 => (op_loadR [.int .i64 _, .int .i64 _, .int .i64 _, .int .i64 _] rfl (by kernel_rfl) (c1.cells 5 rfl rfl))) ?_
              refine wq_call 115 (by kernel_rfl) (fun w1 c1 => op_call (by kernel_rfl)) (fun w1 c1 => (m_complaint_Check_ok N w1 (ApiComplaint.mk 4 1 2937600 1)  r27 (h28 (by rw [decide_eq_true h31, decide_eq_true h32, decide_eq_true h33, decide_eq_true h34, decide_eq_true h35, decide_eq_true h36, decide_eq_true h37, decide_eq_true h38, decide_eq_true h39, decide_eq_true h40, decide_eq_true h41, decide_eq_true h42] <;> rfl))).mono (fun _ _ ⟨_, hx, hu⟩ => ⟨hx, c1.call hu⟩)) ?_
              refine wq_dec 116 (by kernel_rfl) (fun w1 c1 => (op_eql rfl rfl)) (fun h43 => ?_) (fun h43 => ?_)
              ·skip
               refine wv 117 (by kernel_rfl) (fun w1 c1 => (opt (v := .bool true) rfl rfl)) ?_
               refine wv 118 (by kernel_rfl) (fun w1 c1 => (om (v := .bool true) rfl)) ?_
               refine wv 119 (by kernel_rfl) (fun w1 c1 => (op_build (z := [.int .i64 0, .int .i64 0, .int .i64 0, .int .i64 0]) (tab := [(0, 1), (1, 1), (2, 1), (3, 1)]) (cs := [.int .i64 _, .int .i64 _, .int .i64 _, .int .i64 _]) [(0, [.int .i64 _]), (3, [.int .i64 _])] (by kernel_rfl) (by kernel_rfl) (fillOk_cons rfl rfl rfl (fillOk_cons rfl rfl rfl fillOk_nil)) rfl)) ?_
               refine wq_call 120 (by kernel_rfl) (fun w1 c1 => op_call (by kernel_rfl)) (fun w1 c1 => (m_complaint_Check_ok N w1 (ApiComplaint.mk 4 0 0 4)  r29 (h30 (by rw [decide_eq_true h31, decide_eq_true h32, decide_eq_true h33, decide_eq_true h34, decide_eq_true h35, decide_eq_true h36, decide_eq_true h37, decide_eq_true h38, decide_eq_true h39, decide_eq_true h40, decide_eq_true h41, decide_eq_true h42, decide_eq_true h43] <;> rfl))).mono (fun _ _ ⟨_, hx, hu⟩ => ⟨hx, c1.call hu⟩)) ?_
               refine wv 121 (by kernel_rfl) (fun w1 c1 => (op_eql rfl rfl)) ?_
               refine wv 122 (by kernel_rfl) (fun w1 c1 => (opt (v := .bool _) rfl rfl)) ?_
               refine wv 0 (by kernel_rfl) (fun w1 c1 => (oa (v := .bool _) rfl)) ?_
               exact leaf_q (sub_out 61 _ rfl (by kernel_rfl) ⟨(congrArg Value.bool (by rw [decide_eq_true h31, decide_eq_true h32, decide_eq_true h33, decide_eq_true h34, decide_eq_true h35, decide_eq_true h36, decide_eq_true h37, decide_eq_true h38, decide_eq_true h39, decide_eq_true h40, decide_eq_true h41, decide_eq_true h42, decide_eq_true h43] <;> rfl)), trivial⟩)
              ·skip
               refine wv 117 (by kernel_rfl) (fun w1 c1 => (opt (v := .bool false) rfl rfl)) ?_
               refine wv 118 (by kernel_rfl) (fun w1 c1 => (om (v := .bool false) rfl)) ?_
               refine wk 119 (by kernel_rfl) ?_
               refine wk 120 (by kernel_rfl) ?_
               refine wk 121 (by kernel_rfl) ?_
               refine wv 122 (by kernel_rfl) (fun w1 c1 => (opf (v := .bool false) rfl rfl)) ?_
               refine wv 0 (by kernel_rfl) (fun w1 c1 => (oa (v := .bool false) rfl)) ?_
               exact leaf_q (sub_out 61 _ rfl (by kernel_rfl) ⟨(congrArg Value.bool (by rw [decide_eq_true h31, decide_eq_true h32, decide_eq_true h33, decide_eq_true h34, decide_eq_true h35, decide_eq_true h36, decide_eq_true h37, decide_eq_true h38, decide_eq_true h39, decide_eq_true h40, decide_eq_true h41, decide_eq_true h42, decide_eq_false h43] <;> rfl)), trivial⟩)
             ·skip
              refine wv 112 (by kernel_rfl) (fun w1 c1 => (opt (v := .bool false) rfl rfl)) ?_
              refine wv 113 (by kernel_rfl) (fun w1 c1 => (om (v := .bool false) rfl)) ?_
              refine wk 114 (by kernel_rfl) ?_
              refine wk 115 (by kernel_rfl) ?_
              refine wk 116 (by kernel_rfl) ?_
              refine wv 117 (by kernel_rfl) (fun w1 c1 => (opf (v := .bool false) rfl rfl)) ?_
              refine wv 118 (by kernel_rfl) (fun w1 c1 => (om (v := .bool false) rfl)) ?_
              refine wk 119 (by kernel_rfl) ?_
              refine wk 120 (by kernel_rfl) ?_
              refine wk 121 (by kernel_rfl) ?_
              refine wv 122 (by kernel_rfl) (fun w1 c1 => (opf (v := .bool false) rfl rfl)) ?_
              refine wv 0 (by kernel_rfl) (fun w1 c1 => (oa (v := .bool false) rfl)) ?_
              exact leaf_q (sub_out 61 _ rfl (by kernel_rfl) ⟨(congrArg Value.bool (by rw [decide_eq_true h31, decide_eq_true h32, decide_eq_true h33, decide_eq_true h34, decide_eq_true h35, decide_eq_true h36, decide_eq_true h37, decide_eq_true h38, decide_eq_true h39, decide_eq_true h40, decide_eq_true h41, decide_eq_false h42] <;> rfl)), trivial⟩)
            ·skip
             refine wv 108 (by kernel_rfl) (fun w1 c1 => (opt (v := .bool false) rfl rfl)) ?_
             refine wv 109 (by kernel_rfl) (fun w1 c1 => (om (v := .bool false) rfl)) ?_
             refine wk 110 (by kernel_rfl) ?_
             refine wk 111 (by kernel_rfl) ?_
             refine wv 112 (by kernel_rfl) (fun w1 c1 => (opf (v := .bool false) rfl rfl)) ?_
             refine wv 113 (by kernel_rfl) (fun w1 c1 => (om (v := .bool false) rfl)) ?_
             refine wk 114 (by kernel_rfl) ?_
             refine wk 115 (by kernel_rfl) ?_
             refine wk 116 (by kernel_rfl) ?_
             refine wv 117 (by kernel_rfl) (fun w1 c1 => (opf (v := .bool false) rfl rfl)) ?_
             refine wv 118 (by kernel_rfl) (fun w1 c1 => (om (v := .bool false) rfl)) ?_
             refine wk 119 (by kernel_rfl) ?_
             refine wk 120 (by kernel_rfl) ?_
             refine wk 121 (by kernel_rfl) ?_
             refine wv 122 (by kernel_rfl) (fun w1 c1 => (opf (v := .bool false) rfl rfl)) ?_
             refine wv 0 (by kernel_rfl) (fun w1 c1 => (oa (v := .bool false) rfl)) ?_
             exact leaf_q (sub_out 61 _ rfl (by kernel_rfl) ⟨(congrArg Value.bool (by rw [decide_eq_true h31, decide_eq_true h32, decide_eq_true h33, decide_eq_true h34, decide_eq_true h35, decide_eq_true h36, decide_eq_true h37, decide_eq_true h38, decide_eq_true h39, decide_eq_true h40, decide_eq_false h41] <;> rfl)), trivial⟩)
           ·skip
            refine wv 104 (by kernel_rfl) (fun w1 c1 => (opt (v := .bool false) rfl rfl)) ?_
            refine wv 105 (by kernel_rfl) (fun w1 c1 => (om (v := .bool false) rfl)) ?_
            refine wk 106 (by kernel_rfl) ?_
            refine wk 107 (by kernel_rfl) ?_
            refine wv 108 (by kernel_rfl) (fun w1 c1 => (opf (v := .bool false) rfl rfl)) ?_
            refine wv 109 (by kernel_rfl) (fun w1 c1 => (om (v := .bool false) rfl)) ?_
            refine wk 110 (by kernel_rfl) ?_
            refine wk 111 (by kernel_rfl) ?_
            refine wv 112 (by kernel_rfl) (fun w1 c1 => (opf (v := .bool false) rfl rfl)) ?_
            refine wv 113 (by kernel_rfl) (fun w1 c1 => (om (v := .bool false) rfl)) ?_
            refine wk 114 (by kernel_rfl) ?_
            refine wk 115 (by kernel_rfl) ?_
            refine wk 116 (by kernel_rfl) ?_
            refine wv 117 (by kernel_rfl) (fun w1 c1 => (opf (v := .bool false) rfl rfl)) ?_
            refine wv 118 (by kernel_rfl) (fun w1 c1 => (om (v := .bool false) rfl)) ?_
            refine wk 119 (by kernel_rfl) ?_
            refine wk 120 (by kernel_rfl) ?_
            refine wk 121 (by kernel_rfl) ?_
            refine wv 122 (by kernel_rfl) (fun w1 c1 => (opf (v := .bool false) rfl rfl)) ?_
            refine wv 0 (by kernel_rfl) (fun w1 c1 => (oa (v := .bool false) rfl)) ?_
            exact leaf_q (sub_out 61 _ rfl (by kernel_rfl) ⟨(congrArg Value.bool (by rw [decide_eq_true h31, decide_eq_true h32, decide_eq_true h33, decide_eq_true h34, decide_eq_true h35, decide_eq_true h36, decide_eq_true h37, decide_eq_true h38, decide_eq_true h39, decide_eq_false h40] <;> rfl)), trivial⟩)
          ·skip
           refine wv 100 (by kernel_rfl) (fun w1 c1 => (opt (v := .bool false) rfl rfl)) ?_
           refine wv 101 (by kernel_rfl) (fun w1 c1 => (om (v := .bool false) rfl)) ?_
           refine wk 102 (by kernel_rfl) ?_
           refine wk 103 (by kernel_rfl) ?_
           refine wv 104 (by kernel_rfl) (fun w1 c1 => (opf (v := .bool false) rfl rfl)) ?_
           refine wv 105 (by kernel_rfl) (fun w1 c1 => (om (v := .bool false) rfl)) ?_
           refine wk 106 (by kernel_rfl) ?_
           refine wk 107 (by kernel_rfl) ?_
           refine wv 108 (by kernel_rfl) (fun w1 c1 => (opf (v := .bool false) rfl rfl)) ?_
           refine wv 109 (by kernel_rfl) (fun w1 c1 => (om (v := .bool false) rfl)) ?_
           refine wk 110 (by kernel_rfl) ?_
           refine wk 111 (by kernel_rfl) ?_
           refine wv 112 (by kernel_rfl) (fun w1 c1 => (opf (v := .bool false) rfl rfl)) ?_
           refine wv 113 (by kernel_rfl) (fun w1 c1 => (om (v := .bool false) rfl)) ?_
           refine wk 114 (by kernel_rfl) ?_
           refine wk 115 (by kernel_rfl) ?_
           refine wk 116 (by kernel_rfl) ?_
           refine wv 117 (by kernel_rfl) (fun w1 c1 => (opf (v := .bool false) rfl rfl)) ?_
           refine wv 118 (by kernel_rfl) (fun w1 c1 => (om (v := .bool false) rfl)) ?_
           refine wk 119 (by kernel_rfl) ?_
           refine wk 120 (by kernel_rfl) ?_
           refine wk 121 (by kernel_rfl) ?_
           refine wv 122 (by kernel_rfl) (fun w1 c1 => (opf (v := .bool false) rfl rfl)) ?_
           refine wv 0 (by kernel_rfl) (fun w1 c1 => (oa (v := .bool false) rfl)) ?_
           exact leaf_q (sub_out 61 _ rfl (by kernel_rfl) ⟨(congrArg Value.bool (by rw [decide_eq_true h31, decide_eq_true h32, decide_eq_true h33, decide_eq_true h34, decide_eq_true h35, decide_eq_true h36, decide_eq_true h37, decide_eq_true h38, decide_eq_false h39] <;> rfl)), trivial⟩)
         ·skip
          refine wv 95 (by kernel_rfl) (fun w1 c1 => (opt (v := .bool false) rfl rfl)) ?_
          refine wv 96 (by kernel_rfl) (fun w1 c1 => (om (v := .bool false) rfl)) ?_
          refine wk 97 (by kernel_rfl) ?_
          refine wk 98 (by kernel_rfl) ?_
          refine wk 99 (by kernel_rfl) ?_
          refine wv 100 (by kernel_rfl) (fun w1 c1 => (opf (v := .bool false) rfl rfl)) ?_
          refine wv 101 (by kernel_rfl) (fun w1 c1 => (om (v := .bool false) rfl)) ?_
          refine wk 102 (by kernel_rfl) ?_
          refine wk 103 (by kernel_rfl) ?_
          refine wv 104 (by kernel_rfl) (fun w1 c1 => (opf (v := .bool false) rfl rfl)) ?_
          refine wv 105 (by kernel_rfl) (fun w1 c1 => (om (v := .bool false) rfl)) ?_
          refine wk 106 (by kernel_rfl) ?_
          refine wk 107 (by kernel_rfl) ?_
          refine wv 108 (by kernel_rfl) (fun w1 c1 => (opf (v := .bool false) rfl rfl)) ?_
          refine wv 109 (by kernel_rfl) (fun w1 c1 => (om (v := .bool false) rfl)) ?_
          refine wk 110 (by kernel_rfl) ?_
          refine wk 111 (by kernel_rfl) ?_
          refine wv 112 (by kernel_rfl) (fun w1 c1 => (opf (v := .bool false) rfl rfl)) ?_
          refine wv 113 (by kernel_rfl) (fun w1 c1 => (om (v := .bool false) rfl)) ?_
          refine wk 114 (by kernel_rfl) ?_
          refine wk 115 (by kernel_rfl) ?_
          refine wk 116 (by kernel_rfl) ?_
          refine wv 117 (by kernel_rfl) (fun w1 c1 => (opf (v := .bool false) rfl rfl)) ?_
          refine wv 118 (by kernel_rfl) (fun w1 c1 => (om (v := .bool false) rfl)) ?_
          refine wk 119 (by kernel_rfl) ?_
          refine wk 120 (by kernel_rfl) ?_
          refine wk 121 (by kernel_rfl) ?_
          refine wv 122 (by kernel_rfl) (fun w1 c1 => (opf (v := .bool false) rfl rfl)) ?_
          refine wv 0 (by kernel_rfl) (fun w1 c1 => (oa (v := .bool false) rfl)) ?_
          exact leaf_q (sub_out 61 _ rfl (by kernel_rfl) ⟨(congrArg Value.bool (by rw [decide_eq_true h31, decide_eq_true h32, decide_eq_true h33, decide_eq_true h34, decide_eq_true h35, decide_eq_true h36, decide_eq_true h37, decide_eq_false h38] <;> rfl)), trivial⟩)
        ·skip
         refine wv 91 (by kernel_rfl) (fun w1 c1 => (opt (v := .bool false) rfl rfl)) ?_
         refine wv 92 (by kernel_rfl) (fun w1 c1 => (om (v := .bool false) rfl)) ?_
         refine wk 93 (by kernel_rfl) ?_
         refine wk 94 (by kernel_rfl) ?_
         refine wv 95 (by kernel_rfl) (fun w1 c1 => (opf (v := .bool false) rfl rfl)) ?_
         refine wv 96 (by kernel_rfl) (fun w1 c1 => (om (v := .bool false) rfl)) ?_
         refine wk 97 (by kernel_rfl) ?_
         refine wk 98 (by kernel_rfl) ?_
         refine wk 99 (by kernel_rfl) ?_
         refine wv 100 (by kernel_rfl) (fun w1 c1 => (opf (v := .bool false) rfl rfl)) ?_
         refine wv 101 (by kernel_rfl) (fun w1 c1 => (om (v := .bool false) rfl)) ?_
         refine wk 102 (by kernel_rfl) ?_
         refine wk 103 (by kernel_rfl) ?_
         refine wv 104 (by kernel_rfl) (fun w1 c1 => (opf (v := .bool false) rfl rfl)) ?_
         refine wv 105 (by kernel_rfl) (fun w1 c1 => (om (v := .bool false) rfl)) ?_
         refine wk 106 (by kernel_rfl) ?_
         refine wk 107 (by kernel_rfl) ?_
         refine wv 108 (by kernel_rfl) (fun w1 c1 => (opf (v := .bool false) rfl rfl)) ?_
         refine wv 109 (by kernel_rfl) (fun w1 c1 => (om (v := .bool false) rfl)) ?_
         refine wk 110 (by kernel_rfl) ?_
         refine wk 111 (by kernel_rfl) ?_
         refine wv 112 (by kernel_rfl) (fun w1 c1 => (opf (v := .bool false) rfl rfl)) ?_
         refine wv 113 (by kernel_rfl) (fun w1 c1 => (om (v := .bool false) rfl)) ?_
         refine wk 114 (by kernel_rfl) ?_
         refine wk 115 (by kernel_rfl) ?_
         refine wk 116 (by kernel_rfl) ?_
         refine wv 117 (by kernel_rfl) (fun w1 c1 => (opf (v := .bool false) rfl rfl)) ?_
         refine wv 118 (by kernel_rfl) (fun w1 c1 => (om (v := .bool false) rfl)) ?_
         refine wk 119 (by kernel_rfl) ?_
         refine wk 120 (by kernel_rfl) ?_
         refine wk 121 (by kernel_rfl) ?_
         refine wv 122 (by kernel_rfl) (fun w1 c1 => (opf (v := .bool false) rfl rfl)) ?_
         refine wv 0 (by kernel_rfl) (fun w1 c1 => (oa (v := .bool false) rfl)) ?_
         exact leaf_q (sub_out 61 _ rfl (by kernel_rfl) ⟨(congrArg Value.bool (by rw [decide_eq_true h31, decide_eq_true h32, decide_eq_true h33, decide_eq_true h34, decide_eq_true h35, decide_eq_true h36, decide_eq_false h37] <;> rfl)), trivial⟩)
       ·skip
        refine wv 87 (by kernel_rfl) (fun w1 c1 => (opt (v := .bool false) rfl rfl)) ?_
        refine wv 88 (by kernel_rfl) (fun w1 c1 => (om (v := .bool false) rfl)) ?_
        refine wk 89 (by kernel_rfl) ?_
        refine wk 90 (by kernel_rfl) ?_
        refine wv 91 (by kernel_rfl) (fun w1 c1 => (opf (v := .bool false) rfl rfl)) ?_
        refine wv 92 (by kernel_rfl) (fun w1 c1 => (om (v := .bool false) rfl)) ?_
        refine wk 93 (by kernel_rfl) ?_
        refine wk 94 (by kernel_rfl) ?_
        refine wv 95 (by kernel_rfl) (fun w1 c1 => (opf (v := .bool false) rfl rfl)) ?_
        refine wv 96 (by kernel_rfl) (fun w1 c1 => (om (v := .bool false) rfl)) ?_
        refine wk 97 (by kernel_rfl) ?_
        refine wk 98 (by kernel_rfl) ?_
        refine wk 99 (by kernel_rfl) ?_
        refine wv 100 (by kernel_rfl) (fun w1 c1 => (opf (v := .bool false) rfl rfl)) ?_
        refine wv 101 (by kernel_rfl) (fun w1 c1 => (om (v := .bool false) rfl)) ?_
        refine wk 102 (by kernel_rfl) ?_
        refine wk 103 (by kernel_rfl) ?_
        refine wv 104 (by kernel_rfl) (fun w1 c1 => (opf (v := .bool false) rfl rfl)) ?_
        refine wv 105 (by kernel_rfl) (fun w1 c1 => (om (v := .bool false) rfl)) ?_
        refine wk 106 (by kernel_rfl) ?_
        refine wk 107 (by kernel_rfl) ?_
        refine wv 108 (by kernel_rfl) (fun w1 c1 => (opf (v := .bool false) rfl rfl)) ?_
        refine wv 109 (by kernel_rfl) (fun w1 c1 => (om (v := .bool false) rfl)) ?_
        refine wk 110 (by kernel_rfl) ?_
        refine wk 111 (by kernel_rfl) ?_
        refine wv 112 (by kernel_rfl) (fun w1 c1 => (opf (v := .bool false) rfl rfl)) ?_
        refine wv 113 (by kernel_rfl) (fun w1 c1 => (om (v := .bool false) rfl)) ?_
        refine wk 114 (by kernel_rfl) ?_
        refine wk 115 (by kernel_rfl) ?_
        refine wk 116 (by kernel_rfl) ?_
        refine wv 117 (by kernel_rfl) (fun w1 c1 => (opf (v := .bool false) rfl rfl)) ?_
        refine wv 118 (by kernel_rfl) (fun w1 c1 => (om (v := .bool false) rfl)) ?_
        refine wk 119 (by kernel_rfl) ?_
        refine wk 120 (by kernel_rfl) ?_
        refine wk 121 (by kernel_rfl) ?_
        refine wv 122 (by kernel_rfl) (fun w1 c1 => (opf (v := .bool false) rfl rfl)) ?_
        refine wv 0 (by kernel_rfl) (fun w1 c1 => (oa (v := .bool false) rfl)) ?_
        exact leaf_q (sub_out 61 _ rfl (by kernel_rfl) ⟨(congrArg Value.bool (by rw [decide_eq_true h31, decide_eq_true h32, decide_eq_true h33, decide_eq_true h34, decide_eq_true h35, decide_eq_false h36] <;> rfl)), trivial⟩)
      ·skip
       refine wv 82 (by kernel_rfl) (fun w1 c1 => (opt (v := .bool false) rfl rfl)) ?_
       refine wv 83 (by kernel_rfl) (fun w1 c1 => (om (v := .bool false) rfl)) ?_
       refine wk 84 (by kernel_rfl) ?_
       refine wk 85 (by kernel_rfl) ?_
       refine wk 86 (by kernel_rfl) ?_
       refine wv 87 (by kernel_rfl) (fun w1 c1 => (opf (v := .bool false) rfl rfl)) ?_
       refine wv 88 (by kernel_rfl) (fun w1 c1 => (om (v := .bool false) rfl)) ?_
       refine wk 89 (by kernel_rfl) ?_
       refine wk 90 (by kernel_rfl) ?_
       refine wv 91 (by kernel_rfl) (fun w1 c1 => (opf (v := .bool false) rfl rfl)) ?_
       refine wv 92 (by kernel_rfl) (fun w1 c1 => (om (v := .bool false) rfl)) ?_
       refine wk 93 (by kernel_rfl) ?_
       refine wk 94 (by kernel_rfl) ?_
       refine wv 95 (by kernel_rfl) (fun w1 c1 => (opf (v := .bool false) rfl rfl)) ?_
       refine wv 96 (by kernel_rfl) (fun w1 c1 => (om (v := .bool false) rfl)) ?_
       refine wk 97 (by kernel_rfl) ?_
       refine wk 98 (by kernel_rfl) ?_
       refine wk 99 (by kernel_rfl) ?_
       refine wv 100 (by kernel_rfl) (fun w1 c1 => (opf (v := .bool false) rfl rfl)) ?_
       refine wv 101 (by kernel_rfl) (fun w1 c1 => (om (v := .bool false) rfl)) ?_
       refine wk 102 (by kernel_rfl) ?_
       refine wk 103 (by kernel_rfl) ?_
       refine wv 104 (by kernel_rfl) (fun w1 c1 => (opf (v := .bool false) rfl rfl)) ?_
       refine wv 105 (by kernel_rfl) (fun w1 c1 => (om (v := .bool false) rfl)) ?_
       refine wk 106 (by kernel_rfl) ?_
       refine wk 107 (by kernel_rfl) ?_
       refine wv 108 (by kernel_rfl) (fun w1 c1 => (opf (v := .bool false) rfl rfl)) ?_
       refine wv 109 (by kernel_rfl) (fun w1 c1 => (om (v := .bool false) rfl)) ?_
       refine wk 110 (by kernel_rfl) ?_
       refine wk 111 (by kernel_rfl) ?_
       refine wv 112 (by kernel_rfl) (fun w1 c1 => (opf (v := .bool false) rfl rfl)) ?_
       refine wv 113 (by kernel_rfl) (fun w1 c1 => (om (v := .bool false) rfl)) ?_
       refine wk 114 (by kernel_rfl) ?_
       refine wk 115 (by kernel_rfl) ?_
       refine wk 116 (by kernel_rfl) ?_
       refine wv 117 (by kernel_rfl) (fun w1 c1 => (opf (v := .bool false) rfl rfl)) ?_
       refine wv 118 (by kernel_rfl) (fun w1 c1 => (om (v := .bool false) rfl)) ?_
       refine wk 119 (by kernel_rfl) ?_
       refine wk 120 (by kernel_rfl) ?_
       refine wk 121 (by kernel_rfl) ?_
       refine wv 122 (by kernel_rfl) (fun w1 c1 => (opf (v := .bool false) rfl rfl)) ?_
       refine wv 0 (by kernel_rfl) (fun w1 c1 => (oa (v := .bool false) rfl)) ?_
       exact leaf_q (sub_out 61 _ rfl (by kernel_rfl) ⟨(congrArg Value.bool (by rw [decide_eq_true h31, decide_eq_true h32, decide_eq_true h33, decide_eq_true h34, decide_eq_false h35] <;> rfl)), trivial⟩)
     ·skip
      refine wv 78 (by kernel_rfl) (fun w1 c1 => (opt (v := .bool false) rfl rfl)) ?_
      refine wv 79 (by kernel_rfl) (fun w1 c1 => (om (v := .bool false) rfl)) ?_
      refine wk 80 (by kernel_rfl) ?_
      refine wk 81 (by kernel_rfl) ?_
      refine wv 82 (by kernel_rfl) (fun w1 c1 => (opf (v := .bool false) rfl rfl)) ?_
      refine wv 83 (by kernel_rfl) (fun w1 c1 => (om (v := .bool false) rfl)) ?_
      refine wk 84 (by kernel_rfl) ?_
      refine wk 85 (by kernel_rfl) ?_
      refine wk 86 (by kernel_rfl) ?_
      refine wv 87 (by kernel_rfl) (fun w1 c1 => (opf (v := .bool false) rfl rfl)) ?_
      refine wv 88 (by kernel_rfl) (fun w1 c1 => (om (v := .bool false) rfl)) ?_
      refine wk 89 (by kernel_rfl) ?_
      refine wk 90 (by kernel_rfl) ?_
      refine wv 91 (by kernel_rfl) (fun w1 c1 => (opf (v := .bool false) rfl rfl)) ?_
      refine wv 92 (by kernel_rfl) (fun w1 c1 => (om (v := .bool false) rfl)) ?_
      refine wk 93 (by kernel_rfl) ?_
      refine wk 94 (by kernel_rfl) ?_
      refine wv 95 (by kernel_rfl) (fun w1 c1 => (opf (v := .bool false) rfl rfl)) ?_
      refine wv 96 (by kernel_rfl) (fun w1 c1 => (om (v := .bool false) rfl)) ?_
      refine wk 97 (by kernel_rfl) ?_
      refine wk 98 (by kernel_rfl) ?_
      refine wk 99 (by kernel_rfl) ?_
      refine wv 100 (by kernel_rfl) (fun w1 c1 => (opf (v := .bool false) rfl rfl)) ?_
      refine wv 101 (by kernel_rfl) (fun w1 c1 => (om (v := .bool false) rfl)) ?_
      refine wk 102 (by kernel_rfl) ?_
      refine wk 103 (by kernel_rfl) ?_
      refine wv 104 (by kernel_rfl) (fun w1 c1 => (opf (v := .bool false) rfl rfl)) ?_
      refine wv 105 (by kernel_rfl) (fun w1 c1 => (om (v := .bool false) rfl)) ?_
      refine wk 106 (by kernel_rfl) ?_
      refine wk 107 (by kernel_rfl) ?_
      refine wv 108 (by kernel_rfl) (fun w1 c1 => (opf (v := .bool false) rfl rfl)) ?_
      refine wv 109 (by kernel_rfl) (fun w1 c1 => (om (v := .bool false) rfl)) ?_
      refine wk 110 (by kernel_rfl) ?_
      refine wk 111 (by kernel_rfl) ?_
      refine wv 112 (by kernel_rfl) (fun w1 c1 => (opf (v := .bool false) rfl rfl)) ?_
      refine wv 113 (by kernel_rfl) (fun w1 c1 => (om (v := .bool false) rfl)) ?_
      refine wk 114 (by kernel_rfl) ?_
      refine wk 115 (by kernel_rfl) ?_
      refine wk 116 (by kernel_rfl) ?_
      refine wv 117 (by kernel_rfl) (fun w1 c1 => (opf (v := .bool false) rfl rfl)) ?_
      refine wv 118 (by kernel_rfl) (fun w1 c1 => (om (v := .bool false) rfl)) ?_
      refine wk 119 (by kernel_rfl) ?_
      refine wk 120 (by kernel_rfl) ?_
      refine wk 121 (by kernel_rfl) ?_
      refine wv 122 (by kernel_rfl) (fun w1 c1 => (opf (v := .bool false) rfl rfl)) ?_
      refine wv 0 (by kernel_rfl) (fun w1 c1 => (oa (v := .bool false) rfl)) ?_
      exact leaf_q (sub_out 61 _ rfl (by kernel_rfl) ⟨(congrArg Value.bool (by rw [decide_eq_true h31, decide_eq_true h32, decide_eq_true h33, decide_eq_false h34] <;> rfl)), trivial⟩)
    ·skip
     refine wv 74 (by kernel_rfl) (fun w1 c1 => (opt (v := .bool false) rfl rfl)) ?_
     refine wv 75 (by kernel_rfl) (fun w1 c1 => (om (v := .bool false) rfl)) ?_
     refine wk 76 (by kernel_rfl) ?_
     refine wk 77 (by kernel_rfl) ?_
     refine wv 78 (by kernel_rfl) (fun w1 c1 => (opf (v := .bool false) rfl rfl)) ?_
     refine wv 79 (by kernel_rfl) (fun w1 c1 => (om (v := .bool false) rfl)) ?_
     refine wk 80 (by kernel_rfl) ?_
     refine wk 81 (by kernel_rfl) ?_
     refine wv 82 (by kernel_rfl) (fun w1 c1 => (opf (v := .bool false) rfl rfl)) ?_
     refine wv 83 (by kernel_rfl) (fun w1 c1 => (om (v := .bool false) rfl)) ?_
     refine wk 84 (by kernel_rfl) ?_
     refine wk 85 (by kernel_rfl) ?_
     refine wk 86 (by kernel_rfl) ?_
     refine wv 87 (by kernel_rfl) (fun w1 c1 => (opf (v := .bool false) rfl rfl)) ?_
     refine wv 88 (by kernel_rfl) (fun w1 c1 => (om (v := .bool false) rfl)) ?_
     refine wk 89 (by kernel_rfl) ?_
     refine wk 90 (by kernel_rfl) ?_
     refine wv 91 (by kernel_rfl) (fun w1 c1 => (opf (v := .bool false) rfl rfl)) ?_
     refine wv 92 (by kernel_rfl) (fun w1 c1 => (om (v := .bool false) rfl)) ?_
     refine wk 93 (by kernel_rfl) ?_
     refine wk 94 (by kernel_rfl) ?_
     refine wv 95 (by kernel_rfl) (fun w1 c1 => (opf (v := .bool false) rfl rfl)) ?_
     refine wv 96 (by kernel_rfl) (fun w1 c1 => (om (v := .bool false) rfl)) ?_
     refine wk 97 (by kernel_rfl) ?_
     refine wk 98 (by kernel_rfl) ?_
     refine wk 99 (by kernel_rfl) ?_
     refine wv 100 (by kernel_rfl) (fun w1 c1 => (opf (v := .bool false) rfl rfl)) ?_
     refine wv 101 (by kernel_rfl) (fun w1 c1 => (om (v := .bool false) rfl)) ?_
     refine wk 102 (by kernel_rfl) ?_
     refine wk 103 (by kernel_rfl) ?_
     refine wv 104 (by kernel_rfl) (fun w1 c1 => (opf (v := .bool false) rfl rfl)) ?_
     refine wv 105 (by kernel_rfl) (fun w1 c1 => (om (v := .bool false) rfl)) ?_
     refine wk 106 (by kernel_rfl) ?_
     refine wk 107 (by kernel_rfl) ?_
     refine wv 108 (by kernel_rfl) (fun w1 c1 => (opf (v := .bool false) rfl rfl)) ?_
     refine wv 109 (by kernel_rfl) (fun w1 c1 => (om (v := .bool false) rfl)) ?_
     refine wk 110 (by kernel_rfl) ?_
     refine wk 111 (by kernel_rfl) ?_
     refine wv 112 (by kernel_rfl) (fun w1 c1 => (opf (v := .bool false) rfl rfl)) ?_
     refine wv 113 (by kernel_rfl) (fun w1 c1 => (om (v := .bool false) rfl)) ?_
     refine wk 114 (by kernel_rfl) ?_
     refine wk 115 (by kernel_rfl) ?_
     refine wk 116 (by kernel_rfl) ?_
     refine wv 117 (by kernel_rfl) (fun w1 c1 => (opf (v := .bool false) rfl rfl)) ?_
     refine wv 118 (by kernel_rfl) (fun w1 c1 => (om (v := .bool false) rfl)) ?_
     refine wk 119 (by kernel_rfl) ?_
     refine wk 120 (by kernel_rfl) ?_
     refine wk 121 (by kernel_rfl) ?_
     refine wv 122 (by kernel_rfl) (fun w1 c1 => (opf (v := .bool false) rfl rfl)) ?_
     refine wv 0 (by kernel_rfl) (fun w1 c1 => (oa (v := .bool false) rfl)) ?_
     exact leaf_q (sub_out 61 _ rfl (by kernel_rfl) ⟨(congrArg Value.bool (by rw [decide_eq_true h31, decide_eq_true h32, decide_eq_false h33] <;> rfl)), trivial⟩)
   ·skip
    refine wv 69 (by kernel_rfl) (fun w1 c1 => (opt (v := .bool false) rfl rfl)) ?_
    refine wv 70 (by kernel_rfl) (fun w1 c1 => (om (v := .bool false) rfl)) ?_
    refine wk 71 (by kernel_rfl) ?_
    refine wk 72 (by kernel_rfl) ?_
    refine wk 73 (by kernel_rfl) ?_
    refine wv 74 (by kernel_rfl) (fun w1 c1 => (opf (v := .bool false) rfl rfl)) ?_
    refine wv 75 (by kernel_rfl) (fun w1 c1 => (om (v := .bool false) rfl)) ?_
    refine wk 76 (by kernel_rfl) ?_
    refine wk 77 (by kernel_rfl) ?_
    refine wv 78 (by kernel_rfl) (fun w1 c1 => (opf (v := .bool false) rfl rfl)) ?_
    refine wv 79 (by kernel_rfl) (fun w1 c1 => (om (v := .bool false) rfl)) ?_
    refine wk 80 (by kernel_rfl) ?_
    refine wk 81 (by kernel_rfl) ?_
    refine wv 82 (by kernel_rfl) (fun w1 c1 => (opf (v := .bool false) rfl rfl)) ?_
    refine wv 83 (by kernel_rfl) (fun w1 c1 => (om (v := .bool false) rfl)) ?_
    refine wk 84 (by kernel_rfl) ?_
    refine wk 85 (by kernel_rfl) ?_
    refine wk 86 (by kernel_rfl) ?_
    refine wv 87 (by kernel_rfl) (fun w1 c1 => (opf (v := .bool false) rfl rfl)) ?_
    refine wv 88 (by kernel_rfl) (fun w1 c1 => (om (v := .bool false) rfl)) ?_
    refine wk 89 (by kernel_rfl) ?_
    refine wk 90 (by kernel_rfl) ?_
    refine wv 91 (by kernel_rfl) (fun w1 c1 => (opf (v := .bool false) rfl rfl)) ?_
    refine wv 92 (by kernel_rfl) (fun w1 c1 => (om (v := .bool false) rfl)) ?_
    refine wk 93 (by kernel_rfl) ?_
    refine wk 94 (by kernel_rfl) ?_
    refine wv 95 (by kernel_rfl) (fun w1 c1 => (opf (v := .bool false) rfl rfl)) ?_
    refine wv 96 (by kernel_rfl) (fun w1 c1 => (om (v := .bool false) rfl)) ?_
    refine wk 97 (by kernel_rfl) ?_
    refine wk 98 (by kernel_rfl) ?_
    refine wk 99 (by kernel_rfl) ?_
    refine wv 100 (by kernel_rfl) (fun w1 c1 => (opf (v := .bool false) rfl rfl)) ?_
    refine wv 101 (by kernel_rfl) (fun w1 c1 => (om (v := .bool false) rfl)) ?_
    refine wk 102 (by kernel_rfl) ?_
    refine wk 103 (by kernel_rfl) ?_
    refine wv 104 (by kernel_rfl) (fun w1 c1 => (opf (v := .bool false) rfl rfl)) ?_
    refine wv 105 (by kernel_rfl) (fun w1 c1 => (om (v := .bool false) rfl)) ?_
    refine wk 106 (by kernel_rfl) ?_
    refine wk 107 (by kernel_rfl) ?_
    refine wv 108 (by kernel_rfl) (fun w1 c1 => (opf (v := .bool false) rfl rfl)) ?_
    refine wv 109 (by kernel_rfl) (fun w1 c1 => (om (v := .bool false) rfl)) ?_
    refine wk 110 (by kernel_rfl) ?_
    refine wk 111 (by kernel_rfl) ?_
    refine wv 112 (by kernel_rfl) (fun w1 c1 => (opf (v := .bool false) rfl rfl)) ?_
    refine wv 113 (by kernel_rfl) (fun w1 c1 => (om (v := .bool false) rfl)) ?_
    refine wk 114 (by kernel_rfl) ?_
    refine wk 115 (by kernel_rfl) ?_
    refine wk 116 (by kernel_rfl) ?_
    refine wv 117 (by kernel_rfl) (fun w1 c1 => (opf (v := .bool false) rfl rfl)) ?_
    refine wv 118 (by kernel_rfl) (fun w1 c1 => (om (v := .bool false) rfl)) ?_
    refine wk 119 (by kernel_rfl) ?_
    refine wk 120 (by kernel_rfl) ?_
    refine wk 121 (by kernel_rfl) ?_
    refine wv 122 (by kernel_rfl) (fun w1 c1 => (opf (v := .bool false) rfl rfl)) ?_
    refine wv 0 (by kernel_rfl) (fun w1 c1 => (oa (v := .bool false) rfl)) ?_
    exact leaf_q (sub_out 61 _ rfl (by kernel_rfl) ⟨(congrArg Value.bool (by rw [decide_eq_true h31, decide_eq_false h32] <;> rfl)), trivial⟩)
  ·skip
   refine wv 66 (by kernel_rfl) (fun w1 c1 => (om (v := .bool false) rfl)) ?_
   refine wk 67 (by kernel_rfl) ?_
   refine wk 68 (by kernel_rfl) ?_
   refine wv 69 (by kernel_rfl) (fun w1 c1 => (opf (v := .bool false) rfl rfl)) ?_
   refine wv 70 (by kernel_rfl) (fun w1 c1 => (om (v := .bool false) rfl)) ?_
   refine wk 71 (by kernel_rfl) ?_
   refine wk 72 (by kernel_rfl) ?_
   refine wk 73 (by kernel_rfl) ?_
   refine wv 74 (by kernel_rfl) (fun w1 c1 => (opf (v := .bool false) rfl rfl)) ?_
   refine wv 75 (by kernel_rfl) (fun w1 c1 => (om (v := .bool false) rfl)) ?_
   refine wk 76 (by kernel_rfl) ?_
   refine wk 77 (by kernel_rfl) ?_
   refine wv 78 (by kernel_rfl) (fun w1 c1 => (opf (v := .bool false) rfl rfl)) ?_
   refine wv 79 (by kernel_rfl) (fun w1 c1 => (om (v := .bool false) rfl)) ?_
   refine wk 80 (by kernel_rfl) ?_
   refine wk 81 (by kernel_rfl) ?_
   refine wv 82 (by kernel_rfl) (fun w1 c1 => (opf (v := .bool false) rfl rfl)) ?_
   refine wv 83 (by kernel_rfl) (fun w1 c1 => (om (v := .bool false) rfl)) ?_
   refine wk 84 (by kernel_rfl) ?_
   refine wk 85 (by kernel_rfl) ?_
   refine wk 86 (by kernel_rfl) ?_
   refine wv 87 (by kernel_rfl) (fun w1 c1 => (opf (v := .bool false) rfl rfl)) ?_
   refine wv 88 (by kernel_rfl) (fun w1 c1 => (om (v := .bool false) rfl)) ?_
   refine wk 89 (by kernel_rfl) ?_
   refine wk 90 (by kernel_rfl) ?_
   refine wv 91 (by kernel_rfl) (fun w1 c1 => (opf (v := .bool false) rfl rfl)) ?_
   refine wv 92 (by kernel_rfl) (fun w1 c1 => (om (v := .bool false) rfl)) ?_
   refine wk 93 (by kernel_rfl) ?_
   refine wk 94 (by kernel_rfl) ?_
   refine wv 95 (by kernel_rfl) (fun w1 c1 => (opf (v := .bool false) rfl rfl)) ?_
   refine wv 96 (by kernel_rfl) (fun w1 c1 => (om (v := .bool false) rfl)) ?_
   refine wk 97 (by kernel_rfl) ?_
   refine wk 98 (by kernel_rfl) ?_
   refine wk 99 (by kernel_rfl) ?_
   refine wv 100 (by kernel_rfl) (fun w1 c1 => (opf (v := .bool false) rfl rfl)) ?_
   refine wv 101 (by kernel_rfl) (fun w1 c1 => (om (v := .bool false) rfl)) ?_
   refine wk 102 (by kernel_rfl) ?_
   refine wk 103 (by kernel_rfl) ?_
   refine wv 104 (by kernel_rfl) (fun w1 c1 => (opf (v := .bool false) rfl rfl)) ?_
   refine wv 105 (by kernel_rfl) (fun w1 c1 => (om (v := .bool false) rfl)) ?_
   refine wk 106 (by kernel_rfl) ?_
   refine wk 107 (by kernel_rfl) ?_
   refine wv 108 (by kernel_rfl) (fun w1 c1 => (opf (v := .bool false) rfl rfl)) ?_
   refine wv 109 (by kernel_rfl) (fun w1 c1 => (om (v := .bool false) rfl)) ?_
   refine wk 110 (by kernel_rfl) ?_
   refine wk 111 (by kernel_rfl) ?_
   refine wv 112 (by kernel_rfl) (fun w1 c1 => (opf (v := .bool false) rfl rfl)) ?_
   refine wv 113 (by kernel_rfl) (fun w1 c1 => (om (v := .bool false) rfl)) ?_
   refine wk 114 (by kernel_rfl) ?_
   refine wk 115 (by kernel_rfl) ?_
   refine wk 116 (by kernel_rfl) ?_
   refine wv 117 (by kernel_rfl) (fun w1 c1 => (opf (v := .bool false) rfl rfl)) ?_
   refine wv 118 (by kernel_rfl) (fun w1 c1 => (om (v := .bool false) rfl)) ?_
   refine wk 119 (by kernel_rfl) ?_
   refine wk 120 (by kernel_rfl) ?_
   refine wk 121 (by kernel_rfl) ?_
   refine wv 122 (by kernel_rfl) (fun w1 c1 => (opf (v := .bool false) rfl rfl)) ?_
   refine wv 0 (by kernel_rfl) (fun w1 c1 => (oa (v := .bool false) rfl)) ?_
   exact leaf_q (sub_out 61 _ rfl (by kernel_rfl) ⟨(congrArg Value.bool (by rw [decide_eq_false h31] <;> rfl)), trivial⟩)
 refine xn ?_
 refine cm_ret ?_
 exact xm_retT rfl (by kernel_rfl) (show _ = Value.bool _ from rfl) fun w1 c1 => ⟨(), rfl, hsub [] (by kernel_rfl) rfl w1 c1⟩
/-- recyclinglaw57.few -/
def m_recyclinglaw57_few (N : Nat) (p0 : ApiAccount) (p1 : ApiBill) : Option (Bool) :=
 (if ((((((decide (300 < (List.length p0.Households : Int))) || (decide (300 < (List.length p0.Containers : Int)))) || (decide (600 < (List.length p0.Assigns : Int)))) || (decide (600 < (List.length p0.Emptyings : Int)))) || (decide (100 < (List.length p0.Tariffs : Int)))) || (decide (600 < (List.length p1.Items : Int)))) = true then
  some (false)
 else
  (andThen
   (loopM (fun (s45 : Int) =>
    (if s45 < (List.length p0.Households : Int) then
     ck ((0 : Int) ≤ s45 ∧ s45 < (List.length p0.Households : Int)) (
      (if 200 < (ByteArray.size ((ix p0.Households s45).ID) : Int) then
       some (.done (.done (false)))
      else
       ck (I64 (s45 + (1 : Int))) (
        some (.next (s45 + (1 : Int))))))
    else
     some (.done (.next ())))) N (0 : Int))
  fun (_s31 : Unit) =>
   (andThen
    (loopM (fun (s83 : Int) =>
     (if s83 < (List.length p0.Containers : Int) then
      ck ((0 : Int) ≤ s83 ∧ s83 < (List.length p0.Containers : Int)) (
       (if 200 < (ByteArray.size ((ix p0.Containers s83).ID) : Int) then
        some (.done (.done (false)))
       else
        ck (I64 (s83 + (1 : Int))) (
         some (.next (s83 + (1 : Int))))))
     else
      some (.done (.next ())))) N (0 : Int))
   fun (_s69 : Unit) =>
    some (true))))
set_option maxHeartbeats 2000000 in
set_option maxRecDepth 20000 in
theorem m_recyclinglaw57_few_ok (N : Nat) (w0 : World) (p0 : ApiAccount) (p1 : ApiBill) (A_p01 : Option Addr) (n_p01 c_p01 : Nat) (A_p02 : Option Addr) (n_p02 c_p02 : Nat) (A_p03 : Option Addr) (n_p03 c_p03 : Nat) (A_p04 : Option Addr) (n_p04 c_p04 : Nat) (A_p05 : Option Addr) (n_p05 c_p05 : Nat) (A_p11 : Option Addr) (n_p11 c_p11 : Nat) (hr_p01 : RdE w0 2 encApiHousehold A_p01 p0.Households) (hz_p01 : SW A_p01 n_p01 c_p01 (List.length p0.Households)) (hr_p02 : RdE w0 5 encApiContainer A_p02 p0.Containers) (hz_p02 : SW A_p02 n_p02 c_p02 (List.length p0.Containers)) (_hr_p03 : RdE w0 4 encApiAssign A_p03 p0.Assigns) (hz_p03 : SW A_p03 n_p03 c_p03 (List.length p0.Assigns)) (_hr_p04 : RdE w0 7 encApiEmptying A_p04 p0.Emptyings) (hz_p04 : SW A_p04 n_p04 c_p04 (List.length p0.Emptyings)) (_hr_p05 : RdE w0 5 encApiTariff A_p05 p0.Tariffs) (hz_p05 : SW A_p05 n_p05 c_p05 (List.length p0.Tariffs)) (_hr_p11 : RdE w0 5 encApiItem A_p11 p1.Items) (hz_p11 : SW A_p11 n_p11 c_p11 (List.length p1.Items)) (r : Bool) (hr : m_recyclinglaw57_few N p0 p1 = some r) :
  Calls Tryz.prog 4 [.agg #[.slice A_p01 n_p01 c_p01, .slice A_p02 n_p02 c_p02, .slice A_p03 n_p03 c_p03, .slice A_p04 n_p04 c_p04, .slice A_p05 n_p05 c_p05, .int .i64 p0.Gap], .agg #[.int .i64 p1.ID, .int .i64 p1.Household, .int .i64 p1.When.From, .int .i64 p1.When.To, .slice A_p11 n_p11 c_p11, .int .i64 p1.Total]].toArray w0 fun x w1 => ∃ u, x = .returned ((fun (r : Bool) (_u : Unit) => .bool r) r u) ∧ Hs w0 ((fun (_r : Bool) (_u : Unit) => []) r u) w1 := by
 refine calls_cm (n := 71) (R := fun r x w1 => ∃ u, x = .returned ((fun (r : Bool) (_u : Unit) => .bool r) r u) ∧ Hs w0 ((fun (_r : Bool) (_u : Unit) => []) r u) w1) Tryz.func4 rfl rfl (Nat.le_of_ble_eq_true rfl) ?_ r hr
 unfold m_recyclinglaw57_few
 refine cq ?_
 refine cr ?_
 refine lm_box 2 [.slice _ _ _, .slice _ _ _, .slice _ _ _, .slice _ _ _, .slice _ _ _, .int .i64 _] (by kernel_rfl) rfl ?_
 intro b5
 refine lm_box 3 [.int .i64 _, .int .i64 _, .int .i64 _, .int .i64 _, .slice _ _ _, .int .i64 _] (by kernel_rfl) rfl ?_
 intro b6
 refine lv 4 (by kernel_rfl) (fun w1 c1 => (oa (v := .bool false) rfl)) ?_
 refine ln ?_
 refine xn ?_
 refine cq ?_
 refine cq ?_
 refine cm_cutE [(40, .bool ((((((decide (300 < (List.length p0.Households : Int))) || (decide (300 < (List.length p0.Containers : Int)))) || (decide (600 < (List.length p0.Assigns : Int)))) || (decide (600 < (List.length p0.Emptyings : Int)))) || (decide (100 < (List.length p0.Tariffs : Int)))) || (decide (600 < (List.length p1.Items : Int)))))] ?_ ?_
 ·skip
  refine wv 7 (by kernel_rfl) (fun w1 c1 => (oF (m := 0) (k := 0) rfl (by kernel_rfl) rfl)) ?_
  refine wv 8 (by kernel_rfl) (fun w1 c1 => (ol rfl (by kernel_rfl) (c1.cell 1 (u := .slice _ _ _) rfl rfl))) ?_
  refine wv 9 (by kernel_rfl) (fun w1 c1 => (op_lenN rfl (by kernel_rfl) hz_p01.2.2)) ?_
  refine wq_dec 10 (by kernel_rfl) (fun w1 c1 => (op_gtr rfl rfl)) (fun h7 => ?_) (fun h7 => ?_)
  ·skip
   refine wv 11 (by kernel_rfl) (fun w1 c1 => (om (v := .bool true) rfl)) ?_
   refine wk 12 (by kernel_rfl) ?_
   refine wk 13 (by kernel_rfl) ?_
   refine wk 14 (by kernel_rfl) ?_
   refine wk 15 (by kernel_rfl) ?_
   refine wv 16 (by kernel_rfl) (fun w1 c1 => (opt (v := .bool true) rfl rfl)) ?_
   refine wv 17 (by kernel_rfl) (fun w1 c1 => (om (v := .bool true) rfl)) ?_
   refine wk 18 (by kernel_rfl) ?_
   refine wk 19 (by kernel_rfl) ?_
   refine wk 20 (by kernel_rfl) ?_
   refine wk 21 (by kernel_rfl) ?_
   refine wv 22 (by kernel_rfl) (fun w1 c1 => (opt (v := .bool true) rfl rfl)) ?_
   refine wv 23 (by kernel_rfl) (fun w1 c1 => (om (v := .bool true) rfl)) ?_
   refine wk 24 (by kernel_rfl) ?_
   refine wk 25 (by kernel_rfl) ?_
   refine wk 26 (by kernel_rfl) ?_
   refine wk 27 (by kernel_rfl) ?_
   refine wv 28 (by kernel_rfl) (fun w1 c1 => (opt (v := .bool true) rfl rfl)) ?_
   refine wv 29 (by kernel_rfl) (fun w1 c1 => (om (v := .bool true) rfl)) ?_
   refine wk 30 (by kernel_rfl) ?_
   refine wk 31 (by kernel_rfl) ?_
   refine wk 32 (by kernel_rfl) ?_
   refine wk 33 (by kernel_rfl) ?_
   refine wv 34 (by kernel_rfl) (fun w1 c1 => (opt (v := .bool true) rfl rfl)) ?_
   refine wv 35 (by kernel_rfl) (fun w1 c1 => (om (v := .bool true) rfl)) ?_
   refine wk 36 (by kernel_rfl) ?_
   refine wk 37 (by kernel_rfl) ?_
   refine wk 38 (by kernel_rfl) ?_
   refine wk 39 (by kernel_rfl) ?_
   refine wv 40 (by kernel_rfl) (fun w1 c1 => (opt (v := .bool true) rfl rfl)) ?_
   exact leaf_q (sub_out 34 _ rfl (by kernel_rfl) ⟨(congrArg Value.bool (by rw [decide_eq_true h7] <;> rfl)), trivial⟩)
  ·skip
   refine wv 11 (by kernel_rfl) (fun w1 c1 => (om (v := .bool false) rfl)) ?_
   refine wv 12 (by kernel_rfl) (fun w1 c1 => (oF (m := 1) (k := 1) rfl (by kernel_rfl) rfl)) ?_
   refine wv 13 (by kernel_rfl) (fun w1 c1 => (ol rfl (by kernel_rfl) (c1.cell 1 (u := .slice _ _ _) rfl rfl))) ?_
   refine wv 14 (by kernel_rfl) (fun w1 c1 => (op_lenN rfl (by kernel_rfl) hz_p02.2.2)) ?_
   refine wq_dec 15 (by kernel_rfl) (fun w1 c1 => (op_gtr rfl rfl)) (fun h8 => ?_) (fun h8 => ?_)
   ·skip
    refine wv 16 (by kernel_rfl) (fun w1 c1 => (opf (v := .bool true) rfl rfl)) ?_
    refine wv 17 (by kernel_rfl) (fun w1 c1 => (om (v := .bool true) rfl)) ?_
    refine wk 18 (by kernel_rfl) ?_
    refine wk 19 (by kernel_rfl) ?_
    refine wk 20 (by kernel_rfl) ?_
    refine wk 21 (by kernel_rfl) ?_
    refine wv 22 (by kernel_rfl) (fun w1 c1 => (opt (v := .bool true) rfl rfl)) ?_
    refine wv 23 (by kernel_rfl) (fun w1 c1 => (om (v := .bool true) rfl)) ?_
    refine wk 24 (by kernel_rfl) ?_
    refine wk 25 (by kernel_rfl) ?_
    refine wk 26 (by kernel_rfl) ?_
    refine wk 27 (by kernel_rfl) ?_
    refine wv 28 (by kernel_rfl) (fun w1 c1 => (opt (v := .bool true) rfl rfl)) ?_
    refine wv 29 (by kernel_rfl) (fun w1 c1 => (om (v := .bool true) rfl)) ?_
    refine wk 30 (by kernel_rfl) ?_
    refine wk 31 (by kernel_rfl) ?_
    refine wk 32 (by kernel_rfl) ?_
    refine wk 33 (by kernel_rfl) ?_
    refine wv 34 (by kernel_rfl) (fun w1 c1 => (opt (v := .bool true) rfl rfl)) ?_
    refine wv 35 (by kernel_rfl) (fun w1 c1 => (om (v := .bool true) rfl)) ?_
    refine wk 36 (by kernel_rfl) ?_
    refine wk 37 (by kernel_rfl) ?_
    refine wk 38 (by kernel_rfl) ?_
    refine wk 39 (by kernel_rfl) ?_
    refine wv 40 (by kernel_rfl) (fun w1 c1 => (opt (v := .bool true) rfl rfl)) ?_
    exact leaf_q (sub_out 34 _ rfl (by kernel_rfl) ⟨(congrArg Value.bool (by rw [decide_eq_false h7, decide_eq_true h8] <;> rfl)), trivial⟩)
   ·skip
    refine wv 16 (by kernel_rfl) (fun w1 c1 => (opf (v := .bool false) rfl rfl)) ?_
    refine wv 17 (by kernel_rfl) (fun w1 c1 => (om (v := .bool false) rfl)) ?_
    refine wv 18 (by kernel_rfl) (fun w1 c1 => (oF (m := 2) (k := 2) rfl (by kernel_rfl) rfl)) ?_
    refine wv 19 (by kernel_rfl) (fun w1 c1 => (ol rfl (by kernel_rfl) (c1.cell 1 (u := .slice _ _ _) rfl rfl))) ?_
    refine wv 20 (by kernel_rfl) (fun w1 c1 => (op_lenN rfl (by kernel_rfl) hz_p03.2.2)) ?_
    refine wq_dec 21 (by kernel_rfl) (fun w1 c1 => (op_gtr rfl rfl)) (fun h9 => ?_) (fun h9 => ?_)
    ·skip
     refine wv 22 (by kernel_rfl) (fun w1 c1 => (opf (v := .bool true) rfl rfl)) ?_
     refine wv 23 (by kernel_rfl) (fun w1 c1 => (om (v := .bool true) rfl)) ?_
     refine wk 24 (by kernel_rfl) ?_
     refine wk 25 (by kernel_rfl) ?_
     refine wk 26 (by kernel_rfl) ?_
     refine wk 27 (by kernel_rfl) ?_
     refine wv 28 (by kernel_rfl) (fun w1 c1 => (opt (v := .bool true) rfl rfl)) ?_
     refine wv 29 (by kernel_rfl) (fun w1 c1 => (om (v := .bool true) rfl)) ?_
     refine wk 30 (by kernel_rfl) ?_
     refine wk 31 (by kernel_rfl) ?_
     refine wk 32 (by kernel_rfl) ?_
     refine wk 33 (by kernel_rfl) ?_
     refine wv 34 (by kernel_rfl) (fun w1 c1 => (opt (v := .bool true) rfl rfl)) ?_
     refine wv 35 (by kernel_rfl) (fun w1 c1 => (om (v := .bool true) rfl)) ?_
     refine wk 36 (by kernel_rfl) ?_
     refine wk 37 (by kernel_rfl) ?_
     refine wk 38 (by kernel_rfl) ?_
     refine wk 39 (by kernel_rfl) ?_
     refine wv 40 (by kernel_rfl) (fun w1 c1 => (opt (v := .bool true) rfl rfl)) ?_
     exact leaf_q (sub_out 34 _ rfl (by kernel_rfl) ⟨(congrArg Value.bool (by rw [decide_eq_false h7, decide_eq_false h8, decide_eq_true h9] <;> rfl)), trivial⟩)
    ·skip
     refine wv 22 (by kernel_rfl) (fun w1 c1 => (opf (v := .bool false) rfl rfl)) ?_
     refine wv 23 (by kernel_rfl) (fun w1 c1 => (om (v := .bool false) rfl)) ?_
     refine wv 24 (by kernel_rfl) (fun w1 c1 => (oF (m := 3) (k := 3) rfl (by kernel_rfl) rfl)) ?_
     refine wv 25 (by kernel_rfl) (fun w1 c1 => (ol rfl (by kernel_rfl) (c1.cell 1 (u := .slice _ _ _) rfl rfl))) ?_
     refine wv 26 (by kernel_rfl) (fun w1 c1 => (op_lenN rfl (by kernel_rfl) hz_p04.2.2)) ?_
     refine wq_dec 27 (by kernel_rfl) (fun w1 c1 => (op_gtr rfl rfl)) (fun h10 => ?_) (fun h10 => ?_)
     ·skip
      refine wv 28 (by kernel_rfl) (fun w1 c1 => (opf (v := .bool true) rfl rfl)) ?_
      refine wv 29 (by kernel_rfl) (fun w1 c1 => (om (v := .bool true) rfl)) ?_
      refine wk 30 (by kernel_rfl) ?_
      refine wk 31 (by kernel_rfl) ?_
      refine wk 32 (by kernel_rfl) ?_
      refine wk 33 (by kernel_rfl) ?_
      refine wv 34 (by kernel_rfl) (fun w1 c1 => (opt (v := .bool true) rfl rfl)) ?_
      refine wv 35 (by kernel_rfl) (fun w1 c1 => (om (v := .bool true) rfl)) ?_
      refine wk 36 (by kernel_rfl) ?_
      refine wk 37 (by kernel_rfl) ?_
      refine wk 38 (by kernel_rfl) ?_
      refine wk 39 (by kernel_rfl) ?_
      refine wv 40 (by kernel_rfl) (fun w1 c1 => (opt (v := .bool true) rfl rfl)) ?_
      exact leaf_q (sub_out 34 _ rfl (by kernel_rfl) ⟨(congrArg Value.bool (by rw [decide_eq_false h7, decide_eq_false h8, decide_eq_false h9, decide_eq_true h10] <;> rfl)), trivial⟩)
     ·skip
      refine wv 28 (by kernel_rfl) (fun w1 c1 => (opf (v := .bool false) rfl rfl)) ?_
      refine wv 29 (by kernel_rfl) (fun w1 c1 => (om (v := .bool false) rfl)) ?_
      refine wv 30 (by kernel_rfl) (fun w1 c1 => (oF (m := 4) (k := 4) rfl (by kernel_rfl) rfl)) ?_
      refine wv 31 (by kernel_rfl) (fun w1 c1 => (ol rfl (by kernel_rfl) (c1.cell 1 (u := .slice _ _ _) rfl rfl))) ?_
      refine wv 32 (by kernel_rfl) (fun w1 c1 => (op_lenN rfl (by kernel_rfl) hz_p05.2.2)) ?_
      refine wq_dec 33 (by kernel_rfl) (fun w1 c1 => (op_gtr rfl rfl)) (fun h11 => ?_) (fun h11 => ?_)
      ·skip
       refine wv 34 (by kernel_rfl) (fun w1 c1 => (opf (v := .bool true) rfl rfl)) ?_
       refine wv 35 (by kernel_rfl) (fun w1 c1 => (om (v := .bool true) rfl)) ?_
       refine wk 36 (by kernel_rfl) ?_
       refine wk 37 (by kernel_rfl) ?_
       refine wk 38 (by kernel_rfl) ?_
       refine wk 39 (by kernel_rfl) ?_
       refine wv 40 (by kernel_rfl) (fun w1 c1 => (opt (v := .bool true) rfl rfl)) ?_
       exact leaf_q (sub_out 34 _ rfl (by kernel_rfl) ⟨(congrArg Value.bool (by rw [decide_eq_false h7, decide_eq_false h8, decide_eq_false h9, decide_eq_false h10, decide_eq_true h11] <;> rfl)), trivial⟩)
      ·skip
       refine wv 34 (by kernel_rfl) (fun w1 c1 => (opf (v := .bool false) rfl rfl)) ?_
       refine wv 35 (by kernel_rfl) (fun w1 c1 => (om (v := .bool false) rfl)) ?_
       refine wv 36 (by kernel_rfl) (fun w1 c1 => (oF (m := 4) (k := 4) rfl (by kernel_rfl) rfl)) ?_
       refine wv 37 (by kernel_rfl) (fun w1 c1 => (ol rfl (by kernel_rfl) (c1.cell 0 (u := .slice _ _ _) rfl rfl))) ?_
       refine wv 38 (by kernel_rfl) (fun w1 c1 => (op_lenN rfl (by kernel_rfl) hz_p11.2.2)) ?_
       refine wv 39 (by kernel_rfl) (fun w1 c1 => (op_gtr rfl rfl)) ?_
       refine wv 40 (by kernel_rfl) (fun w1 c1 => (opf (v := .bool _) rfl rfl)) ?_
       exact leaf_q (sub_out 34 _ rfl (by kernel_rfl) ⟨(congrArg Value.bool (by rw [decide_eq_false h7, decide_eq_false h8, decide_eq_false h9, decide_eq_false h10, decide_eq_false h11] <;> rfl)), trivial⟩)
 refine xn ?_
 refine cm_condB (by kernel_rfl) rfl (fun h12 => ?_) (fun h12 => ?_)
 ·skip
  refine cq ?_
  refine cr ?_
  refine lv 4 (by kernel_rfl) (fun w1 c1 => (oa (v := .bool false) rfl)) ?_
  refine ln ?_
  refine xn ?_
  refine cm_ret ?_
  refine xm_thenR ?_
  exact xm_retT rfl (by kernel_rfl) (show _ = Value.bool false from rfl) fun w1 c1 => ⟨(), rfl, hsub [] (by kernel_rfl) rfl w1 c1⟩
 ·skip
  refine cm_skip ?_
  refine xn ?_
  refine cm_join (σ := Unit) (ξ := Unit) (fun s31 u32 => [(2, .pointer (some ⟨b5, 0, none⟩))]) (fun s31 u32 => [blkE b5 28 [.slice A_p01 n_p01 c_p01, .slice A_p02 n_p02 c_p02, .slice A_p03 n_p03 c_p03, .slice A_p04 n_p04 c_p04, .slice A_p05 n_p05 c_p05, .int .i64 p0.Gap]]) ?_ ?_
  ·skip
   refine cq ?_
   refine cr ?_
   refine lv 5 (by kernel_rfl) (fun w1 c1 => (oa (v := .int .i64 _) rfl)) ?_
   refine ln ?_
   refine xn ?_
   refine cm_block ?_
   refine cm_loop (σ := Int) (ξ := Unit) (fun s45 u46 => [(2, .pointer (some ⟨b5, 0, none⟩)), (5, .int .i64 s45)]) (fun s45 u46 => [blkE b5 28 [.slice A_p01 n_p01 c_p01, .slice A_p02 n_p02 c_p02, .slice A_p03 n_p03 c_p03, .slice A_p04 n_p04 c_p04, .slice A_p05 n_p05 c_p05, .int .i64 p0.Gap]]) () ?_ ?_ ?_
   ·exact (sc (by kernel_rfl) rfl (sc (by kernel_rfl) rfl sub_nil))
   ·exact hsub [1] (by kernel_rfl) rfl
   intro s45 u46
   refine cq ?_
   refine cq ?_
   refine cr ?_
   refine lv 41 (by kernel_rfl) (fun w1 c1 => (om (v := .int .i64 _) rfl)) ?_
   refine lv 42 (by kernel_rfl) (fun w1 c1 => (oF (m := 0) (k := 0) rfl (by kernel_rfl) rfl)) ?_
   refine lv 43 (by kernel_rfl) (fun w1 c1 => (ol rfl (by kernel_rfl) (c1.cell 0 (u := .slice _ _ _) rfl rfl))) ?_
   refine lv 44 (by kernel_rfl) (fun w1 c1 => (op_lenN rfl (by kernel_rfl) hz_p01.2.2)) ?_
   refine lv 45 (by kernel_rfl) (fun w1 c1 => (op_lss rfl rfl)) ?_
   refine ln ?_
   refine xn ?_
   refine cm_cond (by kernel_rfl) rfl (fun h47 => ?_) (fun h47 => ?_)
   ·skip
    refine cm_skip ?_
    refine xn ?_
    refine cq ?_
    refine cm_block ?_
    refine cq ?_
    refine cr ?_
    refine lv 48 (by kernel_rfl) (fun w1 c1 => (oF (m := 0) (k := 0) rfl (by kernel_rfl) rfl)) ?_
    refine lv 49 (by kernel_rfl) (fun w1 c1 => (ol rfl (by kernel_rfl) (c1.cell 0 (u := .slice _ _ _) rfl rfl))) ?_
    refine lv 50 (by kernel_rfl) (fun w1 c1 => (om (v := .int .i64 _) rfl)) ?_
    refine lm_ck (fun h48 => ?_)
    refine lv 51 (by kernel_rfl) (fun w1 c1 => (op_indexA 2 rfl rfl (by kernel_rfl) ((hr_p01.old c1).addr h48.1 h48.2) hz_p01.2.2 h48.1 h48.2)) ?_
    refine lv 52 (by kernel_rfl) (fun w1 c1 => (op_field0 rfl (by kernel_rfl))) ?_
    refine lv 53 (by kernel_rfl) (fun w1 c1 => (ol (v := .string ((ix p0.Households s45).ID)) rfl (by kernel_rfl) ((hr_p01.old c1).cell0 h48.1 h48.2 rfl))) ?_
    refine lv 54 (by kernel_rfl) (fun w1 c1 => (op_lenS rfl (by kernel_rfl))) ?_
    refine lv 55 (by kernel_rfl) (fun w1 c1 => (op_gtr rfl rfl)) ?_
    refine ln ?_
    refine xn ?_
    refine cm_cond (by kernel_rfl) rfl (fun h49 => ?_) (fun h49 => ?_)
    ·skip
     refine cq ?_
     refine cr ?_
     refine lv 4 (by kernel_rfl) (fun w1 c1 => (oa (v := .bool false) rfl)) ?_
     refine ln ?_
     refine xn ?_
     refine cm_ret ?_
     refine xm_inR ?_
     refine xm_thenR ?_
     refine xm_lret ?_
     refine xm_inR ?_
     refine xm_lret ?_
     exact xm_retT rfl (by kernel_rfl) (show _ = Value.bool false from rfl) fun w1 c1 => ⟨(), rfl, hsub [] (by kernel_rfl) rfl w1 c1⟩
    ·skip
     refine cm_skip ?_
     refine xm_inN ?_
     refine xn ?_
     refine cr ?_
     refine lv 46 (by kernel_rfl) (fun w1 c1 => (om (v := .int .i64 _) rfl)) ?_
     refine lm_ck (fun h50 => ?_)
     refine lv 47 (by kernel_rfl) (fun w1 c1 => (op_add rfl rfl h50)) ?_
     refine lv 5 (by kernel_rfl) (fun w1 c1 => (oa (v := .int .i64 _) rfl)) ?_
     refine ln ?_
     exact xm_lnext () (sc (by kernel_rfl) rfl (sc (by kernel_rfl) rfl sub_nil)) (hsub [0] (by kernel_rfl) rfl)
   ·skip
    refine cm_exit ?_
    refine xm_thenE ?_
    refine xm_lexit ?_
    refine xm_here ?_
    exact xm_lnext () (sc (by kernel_rfl) rfl sub_nil) (hsub [0] (by kernel_rfl) rfl)
  intro s31 u32
  refine cm_join (σ := Unit) (ξ := Unit) (fun s69 u70 => []) (fun s69 u70 => []) ?_ ?_
  ·skip
   refine cq ?_
   refine cr ?_
   refine lv 6 (by kernel_rfl) (fun w1 c1 => (oa (v := .int .i64 _) rfl)) ?_
   refine ln ?_
   refine xn ?_
   refine cm_block ?_
   refine cm_loop (σ := Int) (ξ := Unit) (fun s83 u84 => [(2, .pointer (some ⟨b5, 0, none⟩)), (6, .int .i64 s83)]) (fun s83 u84 => [blkE b5 28 [.slice A_p01 n_p01 c_p01, .slice A_p02 n_p02 c_p02, .slice A_p03 n_p03 c_p03, .slice A_p04 n_p04 c_p04, .slice A_p05 n_p05 c_p05, .int .i64 p0.Gap]]) () ?_ ?_ ?_
   ·exact (sc (by kernel_rfl) rfl (sc (by kernel_rfl) rfl sub_nil))
   ·exact hsub [0] (by kernel_rfl) rfl
   intro s83 u84
   refine cq ?_
   refine cq ?_
   refine cr ?_
   refine lv 56 (by kernel_rfl) (fun w1 c1 => (om (v := .int .i64 _) rfl)) ?_
   refine lv 57 (by kernel_rfl) (fun w1 c1 => (oF (m := 1) (k := 1) rfl (by kernel_rfl) rfl)) ?_
   refine lv 58 (by kernel_rfl) (fun w1 c1 => (ol rfl (by kernel_rfl) (c1.cell 0 (u := .slice _ _ _) rfl rfl))) ?_
   refine lv 59 (by kernel_rfl) (fun w1 c1 => (op_lenN rfl (by kernel_rfl) hz_p02.2.2)) ?_
   refine lv 60 (by kernel_rfl) (fun w1 c1 => (op_lss rfl rfl)) ?_
   refine ln ?_
   refine xn ?_
   refine cm_cond (by kernel_rfl) rfl (fun h85 => ?_) (fun h85 => ?_)
   ·skip
    refine cm_skip ?_
    refine xn ?_
    refine cq ?_
    refine cm_block ?_
    refine cq ?_
    refine cr ?_
    refine lv 63 (by kernel_rfl) (fun w1 c1 => (oF (m := 1) (k := 1) rfl (by kernel_rfl) rfl)) ?_
    refine lv 64 (by kernel_rfl) (fun w1 c1 => (ol rfl (by kernel_rfl) (c1.cell 0 (u := .slice _ _ _) rfl rfl))) ?_
    refine lv 65 (by kernel_rfl) (fun w1 c1 => (om (v := .int .i64 _) rfl)) ?_
    refine lm_ck (fun h86 => ?_)
    refine lv 66 (by kernel_rfl) (fun w1 c1 => (op_indexA 5 rfl rfl (by kernel_rfl) ((hr_p02.old c1).addr h86.1 h86.2) hz_p02.2.2 h86.1 h86.2)) ?_
    refine lv 67 (by kernel_rfl) (fun w1 c1 => (op_field0 rfl (by kernel_rfl))) ?_
    refine lv 68 (by kernel_rfl) (fun w1 c1 => (ol (v := .string ((ix p0.Containers s83).ID)) rfl (by kernel_rfl) ((hr_p02.old c1).cell0 h86.1 h86.2 rfl))) ?_
    refine lv 69 (by kernel_rfl) (fun w1 c1 => (op_lenS rfl (by kernel_rfl))) ?_
    refine lv 70 (by kernel_rfl) (fun w1 c1 => (op_gtr rfl rfl)) ?_
    refine ln ?_
    refine xn ?_
    refine cm_cond (by kernel_rfl) rfl (fun h87 => ?_) (fun h87 => ?_)
    ·skip
     refine cq ?_
     refine cr ?_
     refine lv 4 (by kernel_rfl) (fun w1 c1 => (oa (v := .bool false) rfl)) ?_
     refine ln ?_
     refine xn ?_
     refine cm_ret ?_
     refine xm_inR ?_
     refine xm_thenR ?_
     refine xm_lret ?_
     refine xm_inR ?_
     refine xm_lret ?_
     exact xm_retT rfl (by kernel_rfl) (show _ = Value.bool false from rfl) fun w1 c1 => ⟨(), rfl, hsub [] (by kernel_rfl) rfl w1 c1⟩
    ·skip
     refine cm_skip ?_
     refine xm_inN ?_
     refine xn ?_
     refine cr ?_
     refine lv 61 (by kernel_rfl) (fun w1 c1 => (om (v := .int .i64 _) rfl)) ?_
     refine lm_ck (fun h88 => ?_)
     refine lv 62 (by kernel_rfl) (fun w1 c1 => (op_add rfl rfl h88)) ?_
     refine lv 6 (by kernel_rfl) (fun w1 c1 => (oa (v := .int .i64 _) rfl)) ?_
     refine ln ?_
     exact xm_lnext () (sc (by kernel_rfl) rfl (sc (by kernel_rfl) rfl sub_nil)) (hsub [0] (by kernel_rfl) rfl)
   ·skip
    refine cm_exit ?_
    refine xm_thenE ?_
    refine xm_lexit ?_
    refine xm_here ?_
    exact xm_lnext () sub_nil (hsub [] (by kernel_rfl) rfl)
  intro s69 u70
  refine cq ?_
  refine cr ?_
  refine lv 4 (by kernel_rfl) (fun w1 c1 => (oa (v := .bool true) rfl)) ?_
  refine ln ?_
  refine xn ?_
  refine cm_ret ?_
  exact xm_retT rfl (by kernel_rfl) (show _ = Value.bool true from rfl) fun w1 c1 => ⟨(), rfl, hsub [] (by kernel_rfl) rfl w1 c1⟩
end Go.Proofs.YtljogldcejcikaaGreat
