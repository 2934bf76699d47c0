/- Layer 18 in plain words: the order of the list does not matter. -/
import Derived.Test.YtkepegnnkmmefaaEmP5
import Derived.Test.YtkepegnnkmmefaaEmpLOrder
namespace Go.Proofs.Ytkepegnnkmmefaa

theorem perm_all {l m : List ApiEmptying} (h : l.Perm m) {c v : Int} (hl : ∀ x ∈ l, emFault x c v = 0) : ∀ x ∈ m, emFault x c v = 0 := fun x hx => hl x (h.mem_iff.2 hx)
theorem emCheck_of {l : List ApiEmptying} {c v : Int} (h1 : l.length ≤ 512) (h2 : ∀ x ∈ l, emFault x c v = 0) (h3 : (l.map ApiEmptying.ID).Nodup) : emCheck l c v = 0 := by
  unfold emCheck
  rw [if_neg (by omega)]
  have : emBad l c v = none := by
    unfold emBad
    rw [List.findSome?_eq_none_iff]
    intro x hx
    rw [if_pos (h2 x hx)]
  rw [this]
  try simp only
  rw [if_pos h3]
theorem emCheck_perm {l m : List ApiEmptying} (h : l.Perm m) {c v : Int} (hl : emCheck l c v = 0) : emCheck m c v = 0 := by
  obtain ⟨h1, h2, h3⟩ := emCheck_zero hl
  exact emCheck_of (by rw [← h.length_eq]; exact h1) (perm_all h h2) ((h.map ApiEmptying.ID).nodup_iff.1 h3)
theorem emCounts_perm {l m : List ApiEmptying} (h : l.Perm m) (gap : Int) (hl : (emCounts l gap).2 = 0) : (emCounts m gap).2 = 0 := by
  obtain ⟨h1, h2, h3⟩ := emCounts_zero hl
  unfold emCounts
  rw [if_neg (by simpa using emCheck_perm h h1), if_neg (by omega)]
/-- The records that count, as records. -/
def rOk (gap : Int) (out : List ApiEmptying) (x : ApiEmptying) : Bool := !x.Void && out.all fun y => decide (y.Container ≠ x.Container) || decide (gap < x.At - y.At)
def rKeep (gap : Int) (out : List ApiEmptying) (x : ApiEmptying) : List ApiEmptying := if rOk gap out x = true then out ++ [x] else out
theorem keep_map (l : List ApiEmptying) (gap : Int) : ∀ (L acc : List Int), (L.foldl (emKeep l gap) acc).map (ix l) = (L.map (ix l)).foldl (rKeep gap) (acc.map (ix l))
  | [], _ => rfl
  | y :: L, acc => by
    rw [List.foldl_cons, List.map_cons, List.foldl_cons, keep_map l gap L]
    congr 1
    have : emOk l gap acc y = rOk gap (acc.map (ix l)) (ix l y) := by
      unfold emOk rOk
      rw [List.all_map]
      rfl
    unfold emKeep rKeep
    rw [this]
    split <;> simp
theorem order_map_perm (l : List ApiEmptying) : ((emOrder l).map (ix l)).Perm l := by
  have h1 := (emOrder_perm l).map (ix l)
  have h2 : (emIdx l.length).map (ix l) = l := by
    refine List.ext_getElem (by simp [emIdx_len]) fun i hi hi2 => ?_
    simp only [emIdx, List.map_map, List.getElem_map, List.getElem_range, Function.comp]
    exact ix_nat hi2
  rw [h2] at h1
  exact h1
theorem sel_map_eq {l m : List ApiEmptying} (h : l.Perm m) (hl : (l.map ApiEmptying.ID).Nodup) (gap : Int) : (emSel l gap).map (ix l) = (emSel m gap).map (ix m) := by
  have hm := (h.map ApiEmptying.ID).nodup_iff.1 hl
  have e : (emOrder l).map (ix l) = (emOrder m).map (ix m) := by
    refine sorted_unique (lt := fun a b => emLt a b = true) (fun a _ b _ h1 h2 => ?_) ((order_map_perm l).trans (h.trans (order_map_perm m).symm)) ?_ ?_
    · have := emLt_trans h1 h2
      rw [emLt_irrefl] at this
      cases this
    · rw [List.pairwise_map]; exact emOrder_sorted hl
    · rw [List.pairwise_map]; exact emOrder_sorted hm
  unfold emSel
  rw [keep_map, keep_map, e]
  rfl
/-- The list, turned from a place on. -/
def turnedL (l : List ApiEmptying) (k : Nat) : List ApiEmptying := (l.take (k + 1)).reverse ++ (l.drop (k + 1)).reverse
theorem turned_perm (l : List ApiEmptying) (k : Nat) : (turnedL l k).Perm l := by
  have := ((l.take (k + 1)).reverse_perm).append ((l.drop (k + 1)).reverse_perm)
  rwa [List.take_append_drop] at this
theorem turned_len (l : List ApiEmptying) (k : Nat) : (turnedL l k).length = l.length := (turned_perm l k).length_eq
theorem turned_get {l : List ApiEmptying} {k i : Nat} (hk : k < l.length) (hi : i < l.length) : (turnedL l k)[i]'(by rw [turned_len]; exact hi) = l[(k + l.length - i) % l.length]'(Nat.mod_lt _ (by omega)) := by
  unfold turnedL
  rw [List.getElem_append]
  split
  · rename_i h
    rw [List.length_reverse, List.length_take] at h
    rw [List.getElem_reverse, List.getElem_take]
    congr 1
    rw [List.length_take, Nat.min_eq_left (by omega)]
    have : k + l.length - i = (k - i) + l.length := by omega
    rw [this, Nat.add_mod_right, Nat.mod_eq_of_lt (by omega)]
    omega
  · rename_i h
    rw [List.length_reverse, List.length_take, Nat.min_eq_left (by omega)] at h
    rw [List.getElem_reverse, List.getElem_drop]
    congr 1
    rw [List.length_drop, List.length_reverse, List.length_take, Nat.min_eq_left (by omega), Nat.mod_eq_of_lt (by omega)]
    omega
theorem lawEOrder_eq {N : Nat} (hN : 700 < N) (l : List ApiEmptying) (gap p : Int) (hp : 0 ≤ p ∧ p ≤ 255) : m_recyclinglaw18_EmptyingOrder N l gap p = some true := by
  unfold m_recyclinglaw18_EmptyingOrder m_recyclinglaw18_great
  rw [Option.bind_some, eAwake_eq hN]
  split
  · rfl
  · rename_i hgr
    simp only [Bool.or_eq_true, Bool.and_eq_true, decide_eq_true_eq, not_or] at hgr
    have hl0 : 0 < l.length := by omega
    have hl6 : l.length ≤ 600 := by omega
    have hI : I64 p := by unfold I64; omega
    rw [ck_true hI, ck_true ⟨by omega, hI⟩]
    obtain ⟨q, rfl⟩ := Int.eq_ofNat_of_zero_le hp.1
    have hmod : Int.tmod (q : Int) (l.length : Int) = ((q % l.length : Nat) : Int) := by
      rw [Int.ofNat_tmod]
    generalize hk : q % l.length = k at hmod
    have hkl : k < l.length := by rw [← hk]; exact Nat.mod_lt _ hl0
    rw [hmod]
    refine then_ex l.length (fun (t : List ApiEmptying) i => (t, i)) (fun t => t) (fun i t => t = (turnedL l k).take i) [] rfl rfl (by omega) (fun i t hi ht => ?_) (fun t _ => by (try simp only); rw [if_neg (by omega)]) (fun t ht => ?_)
    · have h3 : I64 ((i : Int) + 1) := by unfold I64; omega
      have hil : i < (turnedL l k).length := by rw [turned_len]; exact hi
      have e1 : ((k : Int) + (l.length : Int)) - (i : Int) = ((k + l.length - i : Nat) : Int) := by omega
      have e2 : Int.tmod ((k + l.length - i : Nat) : Int) (l.length : Int) = (((k + l.length - i) % l.length : Nat) : Int) := by rw [Int.ofNat_tmod]
      have hlt : (k + l.length - i) % l.length < l.length := Nat.mod_lt _ hl0
      have htl : t.length ≤ 600 := by rw [ht, List.length_take]; omega
      refine ⟨_, ?_, rfl⟩
      try simp only
      rw [if_pos (by omega), ck_true (by unfold I64; omega), ck_true (by unfold I64; omega), e1, ck_true ⟨by omega, by unfold I64; omega⟩, e2, ck_true ⟨by omega, by omega⟩, ck_true (by simp; omega), ck_true h3, ix_nat hlt, take_succ_get hil, turned_get hkl hi, ht]
    · have hT : t = turnedL l k := by rw [ht, List.take_of_length_le (by rw [turned_len]; exact Nat.le_refl _)]
      subst hT
      clear ht
      have hperm := turned_perm l k
      rw [progECounts_eq hN, Option.bind_some, progECounts_eq hN, Option.bind_some]
      have hiff : (emCounts l gap).2 = 0 ↔ (emCounts (turnedL l k) gap).2 = 0 := ⟨emCounts_perm hperm.symm gap, emCounts_perm hperm gap⟩
      by_cases hc : (emCounts l gap).2 = 0
      · have hc2 := hiff.1 hc
        rw [if_neg (by simp [hc, hc2])]
        obtain ⟨hck, hg, hs⟩ := emCounts_zero hc
        obtain ⟨hl, hv, hn⟩ := emCheck_zero hck
        obtain ⟨_, _, hs2⟩ := emCounts_zero hc2
        rw [hs, hs2]
        have hmap := sel_map_eq hperm.symm hn gap
        have hlen : (emSel l gap).length = (emSel (turnedL l k) gap).length := by
          have := congrArg List.length hmap
          simpa using this
        have hsl := emSel_len l gap
        rw [if_neg (by rw [hlen]; simp)]
        refine then_ex (emSel l gap).length (fun (_ : Unit) i => i) (fun _ => ()) (fun _ _ => True) () rfl trivial (by omega) (fun i _ hi _ => ⟨(), ?_, trivial⟩) (fun _ _ => by (try simp only); rw [if_neg (by omega)]) (fun _ _ => rfl)
        have h3 : I64 ((i : Int) + 1) := by unfold I64; omega
        have hi2 : i < (emSel (turnedL l k) gap).length := by omega
        have h1 : (0 : Int) ≤ (i : Int) ∧ (i : Int) < ((emSel l gap).length : Int) := ⟨by omega, by omega⟩
        have h2 : (0 : Int) ≤ (i : Int) ∧ (i : Int) < ((emSel (turnedL l k) gap).length : Int) := ⟨by omega, by omega⟩
        have hx := emSel_mem (List.getElem_mem hi)
        have hy := emSel_mem (List.getElem_mem hi2)
        have hid : ix l (emSel l gap)[i] = ix (turnedL l k) (emSel (turnedL l k) gap)[i] := by
          have e1 : ((emSel l gap).map (ix l))[i]? = ((emSel (turnedL l k) gap).map (ix (turnedL l k)))[i]? := by rw [hmap]
          simpa [hi, hi2] using e1
        have hy2 : (0 : Int) ≤ (emSel (turnedL l k) gap)[i] ∧ (emSel (turnedL l k) gap)[i] < (l.length : Int) := by rw [turned_len] at hy; exact hy
        try simp only
        rw [if_pos h1.2, ck_true h1, ck_true (fun _ => h1), ck_true (fun _ => h2), ck_true (fun _ => h2), ck_true (fun _ => h1), ix_nat hi, ix_nat hi2, ck_true (fun _ => hx), ck_true (fun _ => h2), ck_true (fun _ => hy), if_neg (by
          simp only [Bool.or_eq_true, decide_eq_true_eq, hid]
          omega), ck_true h3]
      · have hc2 : ¬ (emCounts (turnedL l k) gap).2 = 0 := fun h => hc (hiff.2 h)
        rw [if_pos (by simp [hc])]
        simp [hc, hc2, callIf]
end Go.Proofs.Ytkepegnnkmmefaa
