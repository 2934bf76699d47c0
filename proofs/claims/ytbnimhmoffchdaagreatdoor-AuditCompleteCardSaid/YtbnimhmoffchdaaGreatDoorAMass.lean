/- Mass, of the program and of the reference, as models, by their elder contracts. -/
import Derived.Test.YtbnimhmoffchdaaGreatDoorAMW
import Derived.Test.YtbnimhmoffchdaaGreatDoorATab
import Derived.Test.YtbnimhmoffchdaaGreatDoorZP6
namespace Go.Proofs.YtbnimhmoffchdaaGreatDoor
open Go.RowKit

set_option linter.unusedSectionVars false
variable [JF]
def trM (x : ApiTransfer) : Tr := ⟨x.From, x.To, x.Mass.Lo, x.Mass.Hi⟩
def baM (x : ApiBale) : Bale := ⟨x.ID, x.Material, x.At, x.Mix⟩
def fnM (f : Fnd) : ApiFinding := ⟨f.kind, f.a, f.b⟩
def massM (p : ApiBooks) : List ApiFinding × Int := if 512 < p.Transfers.length ∨ 64 < p.Bales.length then ([], 8) else ((massF (p.Transfers.map trM) p.Inside p.Bins (p.Bales.map baM)).map fnM, 0)
theorem rd_map {α β : Type} {w : World} {B k : Nat} {R : α → List Value → Prop} {R' : β → List Value → Prop} {A : Option Addr} {l : List α} (f : α → β) (hR : ∀ (i : Nat) x cs, l[i]? = some x → R x cs → R' (f x) cs) (h : Rd w B k R A l) : Rd w B k R' A (l.map f) := by
  refine ⟨by rw [List.length_map]; exact h.1, fun hn => ?_⟩
  rw [List.length_map] at hn
  obtain ⟨b, off, e, hb, hc⟩ := h.2 hn
  refine ⟨b, off, e, hb, fun i y hy => ?_⟩
  rw [List.getElem?_map] at hy
  cases hx : l[i]? with
  | none => rw [hx] at hy; cases hy
  | some x =>
    rw [hx] at hy
    injection hy with hy
    subst hy
    obtain ⟨cs, h1, h2, h3⟩ := hc i x hx
    exact ⟨cs, h1, hR i x cs hx h2, h3⟩
theorem tr_rd {w : World} {A : Option Addr} {l : List ApiTransfer} (h : RdE w 4 encApiTransfer A l) : Rd w w.heap.size 4 TrR A (l.map trM) := rd_map trM (fun _ _ _ _ h => h) h
theorem ba_rd {w : World} {A : Option Addr} {l : List ApiBale} {d : Int → Hdr} (h : RdI w 4 (fun (i : Int) (x : ApiBale) => encApiBale x (d i)) A l) (hN : ∀ i : Int, 0 ≤ i ∧ i < (List.length l : Int) → RdE w 1 encI (d i).1 (ix l i).Mix ∧ SW (d i).1 (d i).2.1 (d i).2.2 (List.length (ix l i).Mix)) : Rd w w.heap.size 4 (BaR w w.heap.size) A (l.map baM) := by
  have key := rd_map (R' := BaR w w.heap.size) (fun p : ApiBale × Nat => baM p.1) (fun i x cs hx hc => ?_) h
  · have e : l.zipIdx.map (fun p : ApiBale × Nat => baM p.1) = l.map baM := by
      rw [show (fun p : ApiBale × Nat => baM p.1) = baM ∘ Prod.fst from rfl, ← List.map_map, List.zipIdx_map_fst]
    rw [e] at key
    exact key
  · rw [List.getElem?_zipIdx] at hx
    cases hq : l[i]? with
    | none => rw [hq] at hx; cases hx
    | some y =>
      rw [hq] at hx
      simp only [Option.map_some, Option.some.injEq, Nat.zero_add] at hx
      subst hx
      have hil := (List.getElem?_eq_some_iff.1 hq).1
      have e : ix l (i : Int) = y := by
        unfold ix
        rw [Int.toNat_natCast, List.getD_eq_getElem?_getD, hq]
        rfl
      obtain ⟨hm, _, _, hl⟩ := hN i (by omega)
      rw [e] at hm hl
      refine ⟨(d i).1, (d i).2.2, ?_, hm⟩
      rw [hc]
      show [_, _, _, Value.slice _ _ _] = _
      rw [hl]
      rfl
theorem fnM_flat (fs : List Fnd) : (fs.map fnM).flatMap encApiFinding = fs.flatMap fnC := by rw [List.flatMap_map]; rfl
abbrev MV (r : (List ApiFinding) × Int) (u : (Option Addr) × Nat × Nat) : Value := .tuple #[.slice u.1 u.2.1 u.2.2, .int .i64 r.2]
theorem mass_ret {f : FuncId} {args : List Value} {w : World} {fs : List Fnd} (hJ : JF.j = true) (h : Calls Tryz.prog f args.toArray w fun e w' => ∃ v, e = .returned (.tuple #[v, .int .i64 0]) ∧ w'.ownsRow w.heap.size 64 3 v fs.length (fs.flatMap fnC) ∧ Below w.heap.size w w') : Ret Tryz.prog f args w (fun (r : (List ApiFinding) × Int) (u : (Option Addr) × Nat × Nat) => .tuple #[.slice u.1 u.2.1 u.2.2, .int .i64 r.2]) (fun (r : (List ApiFinding) × Int) (u : (Option Addr) × Nat × Nat) => [ownE 64 3 encApiFinding u.1 u.2.1 u.2.2 r.1]) (fs.map fnM, 0) := by
  refine h.mono fun x w' ⟨v, hx, ho, hb⟩ => ?_
  obtain ⟨hl, hv⟩ := ho
  rcases hv with ⟨rfl, h0⟩ | ⟨g, cap, cur, rfl, hg, hh, hr⟩
  · refine ⟨(none, 0, 0), hx, hb, fun h => absurd (hJ.symm.trans h) (by decide), And.intro ⟨by rw [List.length_map]; exact h0.symm, ?_, .inl ⟨rfl, rfl⟩⟩ ⟨fun b hb => (by cases hb), fun k hk => (by cases hk), trivial⟩⟩
    rw [fnM_flat, hl, h0]
  · refine ⟨(some ⟨g, 0, none⟩, fs.length, cap), hx, hb, fun h => absurd (hJ.symm.trans h) (by decide), And.intro ⟨by rw [List.length_map], ?_, .inr ⟨g, cap, cur, rfl, Nat.zero_le _, hh, ?_⟩⟩ ⟨fun b hb => ?_, fun k hk => (by cases hk), trivial⟩⟩
    · rw [fnM_flat]; exact hl
    · rw [fnM_flat]; exact hr
    · have e : g = b := by simpa [ownE, Value.ownBlock] using hb
      subst e
      exact ⟨hg, (Array.getElem?_eq_some_iff.1 hh).1⟩
theorem mass_fullR {f : FuncId} {args : List Value} {w : World} (hJ : JF.j = true) (h : Calls Tryz.prog f args.toArray w fun e w' => e = .returned (.tuple #[.slice none 0 0, .int .i64 8]) ∧ Below w.heap.size w w') : Ret Tryz.prog f args w (fun (r : (List ApiFinding) × Int) (u : (Option Addr) × Nat × Nat) => .tuple #[.slice u.1 u.2.1 u.2.2, .int .i64 r.2]) (fun (r : (List ApiFinding) × Int) (u : (Option Addr) × Nat × Nat) => [ownE 64 3 encApiFinding u.1 u.2.1 u.2.2 r.1]) ([], 8) := by
  exact h.mono fun x w' ⟨hx, hb⟩ => ⟨(none, 0, 0), hx, hb, fun h => absurd (hJ.symm.trans h) (by decide), And.intro ⟨rfl, rfl, .inl ⟨rfl, rfl⟩⟩ ⟨fun b hb => (by cases hb), fun k hk => (by cases hk), trivial⟩⟩
def m_audit_Mass (_N : Nat) (p0 : ApiBooks) : Option ((List ApiFinding) × Int) := some (massM p0)
theorem m_audit_Mass_ok (N : Nat) (w0 : World) (p0 : ApiBooks) (o : Option Addr) (a2 : Nat) (a3 : Nat) (q : Option Addr) (a4 : Nat) (a5 : Nat) (t : Option Addr) (a6 : Nat) (a7 : Nat) (v : Option Addr) (a8 : Nat) (a9 : Nat) (y : Option Addr) (aa : Nat) (ab : Nat) (z : Option Addr) (ac : Nat) (ad : Nat) (C : Option Addr) (ae : Nat) (af : Nat) (d : Int → Hdr) (G : Option Addr) (ag : Nat) (ah : Nat) (J : Option Addr) (ai : Nat) (aj : Nat) (e : Option Addr) (K : Nat) (L : Nat) (f : Option Addr) (M : Nat) (O : Nat) (g : Option Addr) (Q : Nat) (U : Nat) (j : Option Addr) (V : Nat) (X : Nat) (l : Option Addr) (Y : Nat) (Z : Nat) (a : Int → Hdr) (m : Option Addr) (a0 : Nat) (a1 : Nat) (b : Int → Hdr) (_hr_p01 : RdE w0 2 encApiHousehold o p0.Account.Households) (_hz_p01 : SW o a2 a3 (List.length p0.Account.Households)) (_hr_p02 : RdE w0 5 encApiContainer q p0.Account.Containers) (_hz_p02 : SW q a4 a5 (List.length p0.Account.Containers)) (_hr_p03 : RdE w0 4 encApiAssign t p0.Account.Assigns) (_hz_p03 : SW t a6 a7 (List.length p0.Account.Assigns)) (_hr_p04 : RdE w0 7 encApiEmptying v p0.Account.Emptyings) (_hz_p04 : SW v a8 a9 (List.length p0.Account.Emptyings)) (_hr_p05 : RdE w0 5 encApiTariff y p0.Account.Tariffs) (_hz_p05 : SW y aa ab (List.length p0.Account.Tariffs)) (am : RdE w0 4 encApiTransfer z p0.Transfers) (an : SW z ac ad (List.length p0.Transfers)) (ao : RdI w0 4 (fun (i : Int) (x : ApiBale) => encApiBale x (d i)) C p0.Bales) (aq : SW C ae af (List.length p0.Bales)) (ak : ∀ i : Int, 0 ≤ i ∧ i < (List.length p0.Bales : Int) → RdE w0 1 encI (d i).1 (ix p0.Bales i).Mix ∧ SW (d i).1 (d i).2.1 (d i).2.2 (List.length (ix p0.Bales i).Mix)) (_hr_p08 : RdE w0 5 encApiProduct G p0.Products) (_hz_p08 : SW G ag ah (List.length p0.Products)) (_hr_p09 : RdE w0 5 encApiSale J p0.Sales) (_hz_p09 : SW J ai aj (List.length p0.Sales)) (_hr_p010 : RdE w0 5 encApiClaim e p0.Claims) (_hz_p010 : SW e K L (List.length p0.Claims)) (_hr_p011 : RdE w0 7 encApiPayout f p0.Paid) (_hz_p011 : SW f M O (List.length p0.Paid)) (_hr_p012 : RdE w0 1 encI g p0.Costs) (_hz_p012 : SW g Q U (List.length p0.Costs)) (_hr_p013 : RdE w0 3 encApiFee j p0.Fees) (_hz_p013 : SW j V X (List.length p0.Fees)) (_hr_p014 : RdI w0 6 (fun (i : Int) (x : ApiBill) => encApiBill x (a i)) l p0.Bills) (_hz_p014 : SW l Y Z (List.length p0.Bills)) (_hN1_p014 : ∀ i : Int, 0 ≤ i ∧ i < (List.length p0.Bills : Int) → RdE w0 5 encApiItem (a i).1 (ix p0.Bills i).Items ∧ SW (a i).1 (a i).2.1 (a i).2.2 (List.length (ix p0.Bills i).Items)) (_hr_p015 : RdI w0 3 (fun (i : Int) (x : ApiPosting) => encApiPosting x (b i)) m p0.Postings) (_hz_p015 : SW m a0 a1 (List.length p0.Postings)) (_hN1_p015 : ∀ i : Int, 0 ≤ i ∧ i < (List.length p0.Postings : Int) → RdE w0 2 encApiLine (b i).1 (ix p0.Postings i).Lines ∧ SW (b i).1 (b i).2.1 (b i).2.2 (List.length (ix p0.Postings i).Lines)) (ht : Tab w0) (r : (List ApiFinding) × Int) (hr : m_audit_Mass N p0 = some r) :
    Ret Tryz.prog 15 [.agg #[I p0.Now, S o a2 a3, S q a4 a5, S t a6 a7, S v a8 a9, S y aa ab, I p0.Account.Gap, S z ac ad, I p0.Inside, I p0.Bins, S C ae af, S G ag ah, S J ai aj, S e K L, S f M O, S g Q U, S j V X, S l Y Z, S m a0 a1]] w0 ((fun (r : (List ApiFinding) × Int) (u : Hdr) => .tuple #[S u.1 u.2.1 u.2.2, I r.2])) ((fun (r : (List ApiFinding) × Int) (u : Hdr) => [ownE 64 3 encApiFinding u.1 u.2.1 u.2.2 r.1])) r := by
  injection hr with hr
  subst hr
  obtain rfl := an.2.2
  obtain rfl := aq.2.2
  by_cases hf : 512 < p0.Transfers.length ∨ 64 < p0.Bales.length
  · rw [show massM p0 = ([], 8) from if_pos hf]
    exact mass_fullR ht.2 (massN_full _ _ _ _ _ _ _ _ _ _ _ _ _ _ _ _ _ _ _ _ _ _ _ w0 hf)
  · rw [show massM p0 = _ from if_neg hf]
    rw [show p0.Transfers.length = (p0.Transfers.map trM).length from (List.length_map ..).symm, show p0.Bales.length = (p0.Bales.map baM).length from (List.length_map ..).symm]
    exact mass_ret ht.2 (mass_any _ _ _ _ _ _ _ _ _ _ _ _ _ _ _ _ _ (p0.Transfers.map trM) (by rw [List.length_map]; omega) _ _ (p0.Bales.map baM) (by rw [List.length_map]; omega) p0.Inside p0.Bins w0 (tr_rd am) (ba_rd ao ak))
def m_recyclingref59_Mass (_N : Nat) (p0 : ApiBooks) : Option ((List ApiFinding) × Int) := some (massM p0)
theorem m_recyclingref59_Mass_ok (N : Nat) (w0 : World) (p0 : ApiBooks) (o : Option Addr) (a2 : Nat) (a3 : Nat) (q : Option Addr) (a4 : Nat) (a5 : Nat) (t : Option Addr) (a6 : Nat) (a7 : Nat) (v : Option Addr) (a8 : Nat) (a9 : Nat) (y : Option Addr) (aa : Nat) (ab : Nat) (z : Option Addr) (ac : Nat) (ad : Nat) (C : Option Addr) (ae : Nat) (af : Nat) (d : Int → Hdr) (G : Option Addr) (ag : Nat) (ah : Nat) (J : Option Addr) (ai : Nat) (aj : Nat) (e : Option Addr) (K : Nat) (L : Nat) (f : Option Addr) (M : Nat) (O : Nat) (g : Option Addr) (Q : Nat) (U : Nat) (j : Option Addr) (V : Nat) (X : Nat) (l : Option Addr) (Y : Nat) (Z : Nat) (a : Int → Hdr) (m : Option Addr) (a0 : Nat) (a1 : Nat) (b : Int → Hdr) (_hr_p01 : RdE w0 2 encApiHousehold o p0.Account.Households) (_hz_p01 : SW o a2 a3 (List.length p0.Account.Households)) (_hr_p02 : RdE w0 5 encApiContainer q p0.Account.Containers) (_hz_p02 : SW q a4 a5 (List.length p0.Account.Containers)) (_hr_p03 : RdE w0 4 encApiAssign t p0.Account.Assigns) (_hz_p03 : SW t a6 a7 (List.length p0.Account.Assigns)) (_hr_p04 : RdE w0 7 encApiEmptying v p0.Account.Emptyings) (_hz_p04 : SW v a8 a9 (List.length p0.Account.Emptyings)) (_hr_p05 : RdE w0 5 encApiTariff y p0.Account.Tariffs) (_hz_p05 : SW y aa ab (List.length p0.Account.Tariffs)) (am : RdE w0 4 encApiTransfer z p0.Transfers) (an : SW z ac ad (List.length p0.Transfers)) (ao : RdI w0 4 (fun (i : Int) (x : ApiBale) => encApiBale x (d i)) C p0.Bales) (aq : SW C ae af (List.length p0.Bales)) (ak : ∀ i : Int, 0 ≤ i ∧ i < (List.length p0.Bales : Int) → RdE w0 1 encI (d i).1 (ix p0.Bales i).Mix ∧ SW (d i).1 (d i).2.1 (d i).2.2 (List.length (ix p0.Bales i).Mix)) (_hr_p08 : RdE w0 5 encApiProduct G p0.Products) (_hz_p08 : SW G ag ah (List.length p0.Products)) (_hr_p09 : RdE w0 5 encApiSale J p0.Sales) (_hz_p09 : SW J ai aj (List.length p0.Sales)) (_hr_p010 : RdE w0 5 encApiClaim e p0.Claims) (_hz_p010 : SW e K L (List.length p0.Claims)) (_hr_p011 : RdE w0 7 encApiPayout f p0.Paid) (_hz_p011 : SW f M O (List.length p0.Paid)) (_hr_p012 : RdE w0 1 encI g p0.Costs) (_hz_p012 : SW g Q U (List.length p0.Costs)) (_hr_p013 : RdE w0 3 encApiFee j p0.Fees) (_hz_p013 : SW j V X (List.length p0.Fees)) (_hr_p014 : RdI w0 6 (fun (i : Int) (x : ApiBill) => encApiBill x (a i)) l p0.Bills) (_hz_p014 : SW l Y Z (List.length p0.Bills)) (_hN1_p014 : ∀ i : Int, 0 ≤ i ∧ i < (List.length p0.Bills : Int) → RdE w0 5 encApiItem (a i).1 (ix p0.Bills i).Items ∧ SW (a i).1 (a i).2.1 (a i).2.2 (List.length (ix p0.Bills i).Items)) (_hr_p015 : RdI w0 3 (fun (i : Int) (x : ApiPosting) => encApiPosting x (b i)) m p0.Postings) (_hz_p015 : SW m a0 a1 (List.length p0.Postings)) (_hN1_p015 : ∀ i : Int, 0 ≤ i ∧ i < (List.length p0.Postings : Int) → RdE w0 2 encApiLine (b i).1 (ix p0.Postings i).Lines ∧ SW (b i).1 (b i).2.1 (b i).2.2 (List.length (ix p0.Postings i).Lines)) (ht : Tab w0) (r : (List ApiFinding) × Int) (hr : m_recyclingref59_Mass N p0 = some r) :
    Ret Tryz.prog 33 [.agg #[I p0.Now, S o a2 a3, S q a4 a5, S t a6 a7, S v a8 a9, S y aa ab, I p0.Account.Gap, S z ac ad, I p0.Inside, I p0.Bins, S C ae af, S G ag ah, S J ai aj, S e K L, S f M O, S g Q U, S j V X, S l Y Z, S m a0 a1]] w0 ((fun (r : (List ApiFinding) × Int) (u : Hdr) => .tuple #[S u.1 u.2.1 u.2.2, I r.2])) ((fun (r : (List ApiFinding) × Int) (u : Hdr) => [ownE 64 3 encApiFinding u.1 u.2.1 u.2.2 r.1])) r := by
  injection hr with hr
  subst hr
  obtain rfl := an.2.2
  obtain rfl := aq.2.2
  by_cases hf : 512 < p0.Transfers.length ∨ 64 < p0.Bales.length
  · rw [show massM p0 = ([], 8) from if_pos hf]
    exact mass_fullR ht.2 (refMassN_full _ _ _ _ _ _ _ _ _ _ _ _ _ _ _ _ _ _ _ _ _ _ _ w0 hf)
  · rw [show massM p0 = _ from if_neg hf]
    rw [show p0.Transfers.length = (p0.Transfers.map trM).length from (List.length_map ..).symm, show p0.Bales.length = (p0.Bales.map baM).length from (List.length_map ..).symm]
    exact mass_ret ht.2 (refMass_any _ _ _ _ _ _ _ _ _ _ _ _ _ _ _ _ _ (p0.Transfers.map trM) (by rw [List.length_map]; omega) _ _ (p0.Bales.map baM) (by rw [List.length_map]; omega) p0.Inside p0.Bins w0 (tr_rd am) (ba_rd ao ak))
end Go.Proofs.YtbnimhmoffchdaaGreatDoor
