/- Layer 57 in plain words: what bounds a credit. -/
import Derived.Test.YtljogldcejcikaaCmpP4
import Derived.Test.YtljogldcejcikaaCmpLBounded
namespace Go.Proofs.Ytljogldcejcikaa

theorem cmRead_of {l : List ApiItem} (h1 : l.length ≤ 512) (h2 : okAmt l) : cmRead l = 0 := by
  unfold cmRead
  rw [if_neg (by omega)]
  have : l.findSome? (fun x => if x.Amount < -1000000000000 ∨ 1000000000000 < x.Amount then some (1 : Int) else none) = none := by
    rw [List.findSome?_eq_none_iff]
    intro x hx
    have := h2 x hx
    rw [if_neg (by omega)]
  rw [this]
theorem cmRest_ok {l : List ApiItem} {ref : Int} (h : cmRead l = 0) (he : l.any (emP ref) = true) : cmRest l ref = (sumP (reP ref) l, 0) := by
  unfold cmRest
  rw [if_neg (fun h' => h' h), if_pos he]
theorem notBad_of {l : List ApiItem} (h : okAmt l) : l.any badAmt = false := by
  rw [List.any_eq_false]
  intro x hx hb
  have := h x hx
  unfold badAmt at hb
  simp only [Bool.not_eq_true', Bool.and_eq_false_iff, decide_eq_false_iff_not] at hb
  omega
theorem dec_err (e0 : Int) (b : ApiBill) (c : ApiComplaint) (g : Option Int) (d : Int) : ((cmDec e0 b c g d).2 = 0 ∨ (cmDec e0 b c g d).1 = ⟨0, 0⟩) ∧ ((cmDec e0 b c g d).2 ≠ 0 ∨ (cmDec e0 b c g d).1.Err ≠ 0 → (cmDec e0 b c g d).1.Credit = 0) := by
  unfold cmDec
  split
  · exact ⟨.inr rfl, fun _ => rfl⟩
  · split
    · exact ⟨.inr rfl, fun _ => rfl⟩
    · split
      · exact ⟨.inr rfl, fun _ => rfl⟩
      · cases g with
        | none => exact ⟨.inl rfl, fun _ => rfl⟩
        | some n =>
          simp only
          split
          · exact ⟨.inl rfl, fun _ => rfl⟩
          · split
            · exact ⟨.inl rfl, fun h => by simp at h⟩
            · exact ⟨.inl rfl, fun _ => rfl⟩
theorem ground_le {a : ApiAccount} {k i : Int} {t : ApiTariff} {x : ApiItem} {rest n : Int} (hn : n = cmGround a k i t x rest) (h : 0 < n) :
    n ≤ rest ∧ (k = 1 → (ix a.Emptyings i).Void = true ∧ n = rest) ∧ (k = 2 → ((ix a.Emptyings i).Void = false ∧ i ∉ (emCounts a.Emptyings a.Gap).1) ∧ n = rest) ∧ (k = 3 → x.Kind = 3 ∧ n ≤ x.Amount) := by
  unfold cmGround at hn
  split at hn
  · split at hn
    · exact ⟨by omega, fun _ => ⟨‹_›, hn⟩, fun _ => by omega, fun _ => by omega⟩
    · omega
  · split at hn
    · split at hn
      · exact ⟨by omega, fun _ => by omega, fun _ => ⟨‹_›, hn⟩, fun _ => by omega⟩
      · omega
    · split at hn
      · omega
      · rename_i h3
        have := wgtOf_le t (ix a.Emptyings i)
        exact ⟨by omega, fun _ => by omega, fun _ => by omega, fun _ => ⟨Decidable.not_not.1 h3, by omega⟩⟩
theorem credit_ok {b : ApiBill} {ref n : Int} (hr : cmRead b.Items = 0) (he : b.Items.any (emP ref) = true) (hn : 0 < n) (hm : n ≤ sumP (reP ref) b.Items) :
    ((cmCredit b ref n).2 ≠ 0 → 1000000000000 < n ∨ 512 ≤ (b.Items.length : Int) ∨ b.Total < -1000000000000 ∨ 1000000000000 < b.Total) ∧
    ((cmCredit b ref n).2 = 0 → cmCredit b ref n = (⟨b.ID, b.Household, b.When, b.Items ++ [⟨4, ref, 1, -n, -n⟩], b.Total - n⟩, 0) ∧ n ≤ 1000000000000 ∧ b.Items.length < 512 ∧ -1000000000000 ≤ b.Total ∧ b.Total ≤ 1000000000000) := by
  obtain ⟨hl, ha⟩ := cmRead_zero hr
  unfold cmCredit
  rw [notBad_of ha]
  by_cases h1 : 512 ≤ b.Items.length
  · rw [if_pos h1]
    exact ⟨fun _ => by omega, fun h => by simp at h⟩
  · rw [if_neg h1]
    by_cases h2 : (((!(decide (-1000000000000 ≤ b.Total) && decide (b.Total ≤ 1000000000000)) || false) || decide (n < 1)) || decide (1000000000000 < n)) = true
    · rw [if_pos h2]
      simp only [Bool.or_eq_true, Bool.not_eq_true', Bool.and_eq_false_iff, decide_eq_false_iff_not, decide_eq_true_eq, Bool.false_eq_true, or_false] at h2
      exact ⟨fun _ => by omega, fun h => by simp at h⟩
    · rw [if_neg h2, if_pos he]
      simp only [Bool.or_eq_true, Bool.not_eq_true', Bool.and_eq_false_iff, decide_eq_false_iff_not, decide_eq_true_eq, Bool.false_eq_true, or_false] at h2
      rw [reP_sum] at hm
      rw [if_neg (by omega)]
      exact ⟨fun h => absurd rfl h, fun _ => ⟨rfl, by omega, by omega, by omega, by omega⟩⟩
/-- After a credit. -/
theorem after {a : ApiAccount} {b : ApiBill} {c : ApiComplaint} {n : Int} {d : Int} (hr : cmRead b.Items = 0) (he0 : cmErr a b c = 0) (hd : (cmDisputed b c).2 = true) (he : b.Items.any (emP (cmDisputed b c).1.Ref) = true) (hn : 0 < n) (hm : n ≤ 1000000000000) (hl : b.Items.length < 512)
    (days : 0 ≤ d ∧ d ≤ 36524 ∧ 0 ≤ b.When.From ∧ b.When.From ≤ b.When.To ∧ b.When.To ≤ 36525) (ht : ¬ (b.When.To + d) * 86400 < c.At) {i : Nat} (hi : emIx a.Emptyings (cmDisputed b c).1.Ref = some i) (hv : (cmVersion a i).2 = 0) (b' : ApiBill)
    (hb' : b' = ⟨b.ID, b.Household, b.When, b.Items ++ [⟨4, (cmDisputed b c).1.Ref, 1, -n, -n⟩], b.Total - n⟩) :
    cmRest b'.Items (cmDisputed b c).1.Ref = (sumP (reP (cmDisputed b c).1.Ref) b.Items - n, 0) ∧
    (c.Kind ≠ 3 → n = sumP (reP (cmDisputed b c).1.Ref) b.Items → cmDec (cmErr a b' c) b' c (cmG a b' c) d = (⟨0, 13⟩, 0)) := by
  obtain ⟨hl0, ha⟩ := cmRead_zero hr
  have hread : cmRead b'.Items = 0 := by
    rw [hb']
    refine cmRead_of (by simp only [List.length_append, List.length_cons, List.length_nil]; omega) fun x hx => ?_
    rcases List.mem_append.1 hx with hx | hx
    · exact ha x hx
    · rw [List.mem_singleton] at hx
      subst hx
      simp only
      omega
  have hany : b'.Items.any (emP (cmDisputed b c).1.Ref) = true := by
    rw [hb']
    simp only [List.any_append, he, Bool.true_or]
  have hrest : cmRest b'.Items (cmDisputed b c).1.Ref = (sumP (reP (cmDisputed b c).1.Ref) b.Items - n, 0) := by
    rw [cmRest_ok hread hany, hb']
    simp only [sumP_append, sumP_one]
    rw [if_pos (by simp [reP])]
    rfl
  refine ⟨hrest, fun hk hz => ?_⟩
  have hrange : ¬ (c.Item < 0 ∨ (b.Items.length : Int) ≤ c.Item) := fun h => by
    unfold cmDisputed at hd
    rw [if_pos h] at hd
    cases hd
  have hdis : cmDisputed b' c = cmDisputed b c := by
    have hi0 : c.Item.toNat < b.Items.length := by omega
    have e : c.Item = ((c.Item.toNat : Nat) : Int) := by omega
    have hix : ix b'.Items c.Item = ix b.Items c.Item := by
      rw [e, ix_nat hi0, ix_nat (by rw [hb']; simp only [List.length_append]; omega)]
      subst hb'
      exact List.getElem_append_left hi0
    have hlen : b'.Items.length = b.Items.length + 1 := by rw [hb']; simp
    unfold cmDisputed
    rw [if_neg hrange, if_neg (by omega), hix]
  have hE : cmErr a b' c = 0 := by
    obtain ⟨e1, e2, e3⟩ := cmErr_zero he0
    unfold cmErr
    rw [e1, e2, if_neg (fun h => h rfl), if_neg (fun h => h rfl), if_neg (by rw [hb']; exact fun h => h e3)]
  have hG : cmG a b' c = some 0 := by
    unfold cmG
    rw [hdis, if_pos ⟨hd, hany⟩, hi]
    simp only
    rw [if_neg (fun h => h hv), hrest, ← hz, Int.sub_self]
    unfold cmGround
    have hkk := cmCheck_kind (cmErr_zero he0).2.1
    by_cases k1 : c.Kind = 1
    · rw [if_pos k1]; split <;> rfl
    · rw [if_neg k1, if_pos (by omega)]; split <;> rfl
  have hW : b'.When = b.When := by rw [hb']
  unfold cmDec
  rw [hE, hG, hread, hW, if_neg (fun h => h rfl), if_neg (by omega), if_neg (fun h => h rfl)]
  simp only
  rw [if_neg ht, if_neg (by decide)]
theorem inner_any {ρ : Type} {l : List Int} (hl : l.length ≤ 600) (k : Int) : ∃ u : Bool, (loopM (ρ := Step Bool ρ) (fun (s610 : Bool × Int) =>
    (if s610.2 < (List.length l : Int) then
      ck ((!s610.1) = true → (0 : Int) ≤ s610.2 ∧ s610.2 < (List.length l : Int)) (
        ck (I64 (s610.2 + (1 : Int))) (
          some (.next ((s610.1 || (decide ((ix l s610.2) = k))), (s610.2 + (1 : Int))))))
    else
      some (.done (.next s610.1)))) 10000 (false, (0 : Int))) = some (.next u) ∧ (u = true → k ∈ l) := by
  obtain ⟨u, hu, eu⟩ := loop_ex (ρ := ρ) (f := fun (s610 : Bool × Int) =>
    (if s610.2 < (List.length l : Int) then
      ck ((!s610.1) = true → (0 : Int) ≤ s610.2 ∧ s610.2 < (List.length l : Int)) (
        ck (I64 (s610.2 + (1 : Int))) (
          some (.next ((s610.1 || (decide ((ix l s610.2) = k))), (s610.2 + (1 : Int))))))
    else
      some (.done (.next s610.1)))) (N := 10000) (s0 := (false, 0)) l.length (fun (t : Bool) j => (t, j)) (fun t => t) (fun _ t => t = true → k ∈ l) false rfl (fun h => by cases h) (fun j t hj ht => by
      have j1 : ((j : Int)) < (l.length : Int) := by omega
      have j2 : I64 ((j : Int) + 1) := by unfold I64; omega
      have jm := List.getElem_mem hj
      simp only
      rw [if_pos j1, ck_true (fun _ => ⟨by omega, j1⟩), ck_true j2, ix_nat hj]
      refine ⟨_, rfl, fun h => ?_⟩
      rcases Bool.or_eq_true _ _ ▸ h with h | h
      · exact ht h
      · exact (of_decide_eq_true h) ▸ jm) (fun t _ => by simp only; rw [if_neg (by omega)]) (by omega)
  exact ⟨u, eu, hu⟩
theorem lawCBounded_eq (x : Recyclinglaw57Case) : m_recyclinglaw57_ComplaintBounded 10000 x = some true := by
  unfold m_recyclinglaw57_ComplaintBounded
  obtain ⟨v, e, hv⟩ := few_ex x.Account x.Bill
  rw [e, Option.bind_some, cmpAwake_10000, decide_eq, Option.bind_some, Option.bind_some]
  cases v with
  | false => rfl
  | true =>
    obtain ⟨hsz, hsz2⟩ := hv rfl
    rw [if_neg (by decide)]
    by_cases hg : (decide ((cmDec (cmErr x.Account x.Bill x.Complaint) x.Bill x.Complaint (cmG x.Account x.Bill x.Complaint) x.Days).2 ≠ 0) || decide ((cmDec (cmErr x.Account x.Bill x.Complaint) x.Bill x.Complaint (cmG x.Account x.Bill x.Complaint) x.Days).1.Err ≠ 0)) = true
    · rw [if_pos hg]
      obtain ⟨d1, d2⟩ := dec_err (cmErr x.Account x.Bill x.Complaint) x.Bill x.Complaint (cmG x.Account x.Bill x.Complaint) x.Days
      simp only [Bool.or_eq_true, decide_eq_true_eq] at hg
      have hh : ((((decide ((cmDec (cmErr x.Account x.Bill x.Complaint) x.Bill x.Complaint (cmG x.Account x.Bill x.Complaint) x.Days).2 = 0)) || (decide ((cmDec (cmErr x.Account x.Bill x.Complaint) x.Bill x.Complaint (cmG x.Account x.Bill x.Complaint) x.Days).1 = (ApiRuling.mk 0 0)))) && (decide ((cmDec (cmErr x.Account x.Bill x.Complaint) x.Bill x.Complaint (cmG x.Account x.Bill x.Complaint) x.Days).1.Credit = 0)))) = true := by
        simp only [Bool.and_eq_true, Bool.or_eq_true, decide_eq_true_eq]
        exact ⟨d1, d2 hg⟩
      rw [hh]
      rfl
    · rw [if_neg hg]
      simp only [Bool.or_eq_true, decide_eq_true_eq, not_or, Decidable.not_not] at hg
      obtain ⟨p1, p2, p3, n, p4, p5, p6, p7⟩ := granted hg.1 hg.2
      obtain ⟨q1, q2, i, q3, q4, q5⟩ := cmG_some p4
      obtain ⟨r1, r2⟩ := emIx_some q3
      rw [p7]
      have hrange : ¬ (x.Complaint.Item < 0 ∨ (x.Bill.Items.length : Int) ≤ x.Complaint.Item) := fun h => by
        unfold cmDisputed at q1
        rw [if_pos h] at q1
        cases q1
      have hdis : (cmDisputed x.Bill x.Complaint).1 = ix x.Bill.Items x.Complaint.Item := by
        unfold cmDisputed; rw [if_neg hrange]
      obtain ⟨hbil, hchk, hid⟩ := cmErr_zero p1
      have hkk := cmCheck_kind hchk
      obtain ⟨hem, hgap⟩ := (bilOf_eq x.Account).2 hbil
      obtain ⟨hl, ha⟩ := cmRead_zero p3
      rw [cmRest_ok p3 q2] at q5
      simp only at q5
      obtain ⟨g1, g2, g3, g4⟩ := ground_le q5 p5
      obtain ⟨c1, c2⟩ := credit_ok p3 q2 p5 g1
      have haf := after (d := x.Days) p3 p1 q1 q2 p5
      have happ : cmApply x.Bill x.Complaint ⟨n, 0⟩ = cmCredit x.Bill (cmDisputed x.Bill x.Complaint).1.Ref n := by
        unfold cmApply
        rw [if_neg (fun h => h hchk), if_neg (fun h => h hid), if_neg (fun h => h rfl), if_pos q1]
      have hsum := sumP_small' (reP (cmDisputed x.Bill x.Complaint).1.Ref) ha hl
      rw [hdis] at q2 q3 q5 r2 g1 g2 g3 g4 c1 c2 haf happ hsum
      have hcnt : (emCounts x.Account.Emptyings x.Account.Gap).2 = 0 := by
        unfold emCounts
        rw [if_neg (fun h => h hem), if_neg (by omega)]
      obtain ⟨hnod, hc⟩ := counts_ok hcnt
      have hcl := emCounts_len x.Account.Emptyings x.Account.Gap
      rw [if_neg (by simp only [Bool.or_eq_true, decide_eq_true_eq]; exact hrange), ck_true (by omega), rest_eq (by omega), Option.bind_some, cmRest_ok p3 q2]
      simp only
      rw [if_neg (by simp only [Bool.or_eq_true, decide_eq_true_eq]; omega), progECounts_eq (by omega), Option.bind_some, if_neg (fun h => h hcnt)]
      refine then_ex x.Account.Emptyings.length (fun (t : Bool) k => (t, k)) (fun t => t) (fun k t => t = decide (i < k)) false rfl (by simp) (by omega) (fun k t hk ht => ?_) (fun t _ => by simp only; rw [if_neg (by omega)]) (fun t ht => ?_)
      · have h1 : ((k : Int)) < (x.Account.Emptyings.length : Int) := by omega
        have h2 : I64 ((k : Int) + 1) := by unfold I64; omega
        simp only
        rw [if_pos h1, ck_true ⟨by omega, h1⟩]
        by_cases hik : k = i
        · subst hik
          rw [if_neg (fun h => h r2)]
          refine ⟨true, ?_, by simp⟩
          have hin := inner_any (ρ := Step Bool (Step (Bool × Int) (Step Bool Bool))) (l := (emCounts x.Account.Emptyings x.Account.Gap).1) (by omega) (k : Int)
          obtain ⟨u, eu, hu⟩ := hin
          rw [eu, andThen_next]
          by_cases k1 : x.Complaint.Kind = 1
          · obtain ⟨w1, w2⟩ := g2 k1
            rw [if_pos k1, andThen_next, ck_true h2, w1, w2]
            simp
          · by_cases k2 : x.Complaint.Kind = 2
            · obtain ⟨⟨w1, w3⟩, w2⟩ := g3 k2
              have : u = false := by
                cases u with
                | false => rfl
                | true => exact absurd (hu rfl) w3
              rw [if_neg k1, if_pos k2, andThen_next, ck_true h2, w1, w2, this]
              simp
            · have k3 : x.Complaint.Kind = 3 := by omega
              obtain ⟨w1, w2⟩ := g4 k3
              rw [if_neg k1, if_neg k2, if_pos k3, andThen_next, ck_true h2, w1]
              simp [w2]
        · have hne : (ix x.Account.Emptyings (k : Int)).ID ≠ (ix x.Bill.Items x.Complaint.Item).Ref := fun h => hik (by
            have := id_inj hnod (i := (k : Int)) (k := (i : Int)) (by omega) h1 (by omega) (by omega) (by rw [h, r2])
            omega)
          rw [if_pos hne, andThen_next, ck_true h2]
          refine ⟨t, rfl, ?_⟩
          rw [ht, decide_eq_decide]
          omega
      · rw [ht, decide_eq_true (by omega : i < x.Account.Emptyings.length), if_neg (by decide), apply_eq (by omega), Option.bind_some, happ]
        by_cases hz : (cmCredit x.Bill (ix x.Bill.Items x.Complaint.Item).Ref n).2 = 0
        · obtain ⟨z1, z2, z3, z4, z5⟩ := c2 hz
          obtain ⟨f1, f2⟩ := haf z2 z3 p2 p6 q3 q4 _ rfl
          rw [z1]
          simp only
          rw [if_neg (fun h => h rfl), rest_eq (by omega), Option.bind_some]
          simp only at f1
          rw [f1]
          simp only
          rw [ck_true (fun _ => by unfold I64; omega), ck_true (fun _ => by unfold I64; omega), ck_true (fun _ => by unfold I64; omega), if_neg (by
            simp only [Bool.or_eq_true, decide_eq_true_eq, List.length_append, List.length_cons, List.length_nil]
            omega)]
          by_cases k3 : x.Complaint.Kind = 3
          · rw [if_pos k3]
          · rw [if_neg k3, decide_eq, Option.bind_some, f2 k3 (by
              rcases (by omega : x.Complaint.Kind = 1 ∨ x.Complaint.Kind = 2) with h | h
              · exact (g2 h).2
              · exact (g3 h).2)]
            rfl
        · have := c1 hz
          rw [if_pos hz]
          have hb : ((((decide (1000000000000 < n)) || (decide (512 ≤ (List.length x.Bill.Items : Int)))) || (decide (x.Bill.Total < -1000000000000))) || (decide (1000000000000 < x.Bill.Total))) = true := by
            simp only [Bool.or_eq_true, decide_eq_true_eq]
            omega
          rw [hb]
          rfl
end Go.Proofs.Ytljogldcejcikaa
