/- Layer 18 in plain words: the order of records, and which of them count. -/
import Derived.Test.YtbnimhmoffchdaaGreatDoorYEmP1
import Derived.Test.YtbnimhmoffchdaaGreatDoorZR2
namespace Go.Proofs.YtbnimhmoffchdaaGreatDoor

def cmpI (a b : Int) : Int := if a < b then -1 else if b < a then 1 else 0
theorem compare_eq (N : Nat) (a b : Int) : m_cmp_Compare N a b = some (cmpI a b) := by
 unfold m_cmp_Compare m_cmp_isNaN cmpI
 simp
 split
 ·rfl
 ·split <;> rfl
theorem or2_eq {N : Nat} (hN : 3 ≤ N) (a b : Int) : m_cmp_Or N [a, b] = some (if a ≠ 0 then a else b) := by
 obtain ⟨n, rfl⟩ : ∃ n, N = n + 3 := ⟨N - 3, by omega⟩
 unfold m_cmp_Or
 by_cases ha : a = 0
 ·by_cases hb : b = 0
  ·simp [loopM, andThen, ck, ix, I64, ha, hb]
  ·simp [loopM, andThen, ck, ix, I64, ha, hb]
 ·simp [loopM, andThen, ck, ix, ha]
def emLt (x y : ApiEmptying) : Bool := decide (x.At < y.At ∨ x.At = y.At ∧ x.ID < y.ID)
def emLtI (l : List ApiEmptying) (i k : Int) : Bool := emLt (ix l i) (ix l k)
def emIdx (n : Nat) : List Int := (List.range n).map fun (i : Nat) => (i : Int)
def emOrder (l : List ApiEmptying) : List Int := (emIdx l.length).foldl (insB (emLtI l)) []
theorem emIdx_succ (n : Nat) : emIdx (n + 1) = emIdx n ++ [(n : Int)] := by simp [emIdx, List.range_succ]
theorem emIdx_len (n : Nat) : (emIdx n).length = n := by simp [emIdx]
theorem emIdx_mem {n : Nat} {x : Int} : x ∈ emIdx n ↔ 0 ≤ x ∧ x < n := by
 unfold emIdx
 simp only [List.mem_map, List.mem_range]
 constructor
 ·rintro ⟨i, hi, rfl⟩; omega
 ·rintro ⟨h0, h1⟩; exact ⟨x.toNat, by omega, by omega⟩
theorem emIdx_nodup (n : Nat) : (emIdx n).Nodup := by
 unfold emIdx
 refine List.Pairwise.map _ (fun (a b : Nat) (h : a ≠ b) (e : (a : Int) = (b : Int)) => h (by omega)) List.nodup_range
theorem fold_ins_perm {α : Type} (lt : α → α → Bool) : ∀ (L acc : List α), (L.foldl (insB lt) acc).Perm (acc ++ L)
 | [], acc => by simp
 | x :: L, acc => by
  rw [List.foldl_cons]
  refine (fold_ins_perm lt L (insB lt acc x)).trans ?_
  have := (insB_perm lt acc x).append_right L
  simpa using this
theorem fold_ins_sorted {α : Type} {lt : α → α → Bool} (htr : ∀ a b c, lt a b = true → lt b c = true → lt a c = true) : ∀ (L acc : List α), (acc ++ L).Nodup → (∀ x ∈ acc ++ L, ∀ y ∈ acc ++ L, x ≠ y → lt x y = false → lt y x = true) → acc.Pairwise (fun a b => lt a b = true) → (L.foldl (insB lt) acc).Pairwise (fun a b => lt a b = true)
 | [], _, _, _, h => h
 | x :: L, acc, hn, htot, h => by
  rw [List.foldl_cons]
  have hp : (insB lt acc x ++ L).Perm (acc ++ x :: L) := by simpa using (insB_perm lt acc x).append_right L
  refine fold_ins_sorted htr L _ (hp.nodup_iff.2 hn) (fun a ha b hb => htot a (hp.mem_iff.1 ha) b (hp.mem_iff.1 hb)) (insB_sorted htr (fun y hy => ?_) h)
  refine htot x (by simp) y (List.mem_append_left _ hy) ?_
  rintro rfl
  exact (List.nodup_append.1 hn).2.2 _ hy _ (List.mem_cons_self ..) rfl
theorem emLt_trans {x y z : ApiEmptying} (h1 : emLt x y = true) (h2 : emLt y z = true) : emLt x z = true := by
 unfold emLt at *
 simp only [decide_eq_true_eq] at *
 omega
theorem emLt_irrefl (x : ApiEmptying) : emLt x x = false := by simp [emLt]
theorem emLt_total {x y : ApiEmptying} (h : x.ID ≠ y.ID) (h1 : emLt x y = false) : emLt y x = true := by
 unfold emLt at *
 simp only [decide_eq_true_eq, decide_eq_false_iff_not] at *
 omega
theorem id_inj {l : List ApiEmptying} (hn : (l.map ApiEmptying.ID).Nodup) {i k : Int} (h0 : 0 ≤ i) (h1 : i < l.length) (k0 : 0 ≤ k) (k1 : k < l.length) (h : (ix l i).ID = (ix l k).ID) : i = k := by
 obtain ⟨a, rfl⟩ := Int.eq_ofNat_of_zero_le h0
 obtain ⟨b, rfl⟩ := Int.eq_ofNat_of_zero_le k0
 rw [ix_nat (by omega), ix_nat (by omega)] at h
 have hab : a = b := nodup_get hn (by simp; omega) (by simp; omega) (by simpa using h)
 omega
theorem emOrder_perm (l : List ApiEmptying) : (emOrder l).Perm (emIdx l.length) := by
 have := fold_ins_perm (emLtI l) (emIdx l.length) []
 rwa [List.nil_append] at this
theorem emOrder_mem {l : List ApiEmptying} {x : Int} : x ∈ emOrder l ↔ 0 ≤ x ∧ x < l.length := by rw [(emOrder_perm l).mem_iff, emIdx_mem]
theorem emOrder_len (l : List ApiEmptying) : (emOrder l).length = l.length := by rw [(emOrder_perm l).length_eq, emIdx_len]
theorem emOrder_sorted {l : List ApiEmptying} (hn : (l.map ApiEmptying.ID).Nodup) : (emOrder l).Pairwise (fun a b => emLtI l a b = true) := by
 refine fold_ins_sorted (lt := emLtI l) (fun a b c => emLt_trans) (emIdx l.length) [] (by simpa using emIdx_nodup _) (fun x hx y hy hne h => ?_) List.Pairwise.nil
 rw [List.nil_append] at hx hy
 have hx := emIdx_mem.1 hx
 have hy := emIdx_mem.1 hy
 exact emLt_total (fun e => hne (id_inj hn hx.1 hx.2 hy.1 hy.2 e)) h
theorem foldl_and {α : Type} (p : α → Bool) : ∀ (l : List α) (b : Bool), l.foldl (fun b x => b && p x) b = (b && l.all p)
 | [], b => by simp
 | x :: l, b => by rw [List.foldl_cons, foldl_and p l, List.all_cons, Bool.and_assoc]

/-! ### The reference -/
theorem ordered_eq {N : Nat} (hN : 700 < N) {l : List ApiEmptying} (hl : l.length ≤ 600) : m_recyclingref18_ordered N l = some (emOrder l) := by
 unfold m_recyclingref18_ordered
 refine then_ex l.length (fun (t : List Int) i => (t, i)) (fun t => t) (fun i t => t = (emIdx i).foldl (insB (emLtI l)) []) [] rfl rfl (by omega) (fun i t hi ht => ?_) (fun t _ => by simp only; rw [if_neg (by omega)]) (fun t ht => by subst ht; rfl)
 have hp := fold_ins_perm (emLtI l) (emIdx i) []
 rw [List.nil_append, ← ht] at hp
 have htl : t.length = i := by rw [hp.length_eq, emIdx_len]
 have h1 : ((i : Int)) < (l.length : Int) := by omega
 have h2 : I64 ((i : Int) + 1) := by unfold I64; omega
 have h3 : (0 : Int) ≤ (i : Int) ∧ (i : Int) < (l.length : Int) := ⟨by omega, h1⟩
 have hle := insAt_le (emLtI l) (i : Int) t
 refine ⟨insB (emLtI l) t (i : Int), ?_, by rw [emIdx_succ, List.foldl_append, ← ht]; rfl⟩
 simp only
 rw [if_pos h1]
 rw [loopM_inv (r := Step.next (ρ := Step (List Int × Int) (Step (List Int) (List Int))) ((insAt (emLtI l) (i : Int) t : Nat) : Int)) (fun s => ∃ k : Nat, s = (k : Int) ∧ insAt (emLtI l) (i : Int) t ≤ k ∧ k ≤ t.length) Int.toNat ?_ N _ ⟨t.length, rfl, hle, Nat.le_refl _⟩ (by omega)]
 ·rw [andThen_next, ck_true ⟨by omega, by omega⟩, ck_true (by simp; omega), ck_true ⟨by omega, by omega⟩, ck_true (by simp), ck_true (by simp; omega), ck_true (by simp; omega), ck_true h2]
  simp [insB]
 ·rintro s ⟨k, rfl, k1, k2⟩
  rcases Nat.eq_zero_or_pos k with rfl | hk
  ·right
   have : insAt (emLtI l) (i : Int) t = 0 := by omega
   simp [ck, this]
  ·have hkl : k - 1 < t.length := by omega
   have e1 : ((k : Int) - 1) = ((k - 1 : Nat) : Int) := by omega
   have c1 : I64 ((k : Int) - 1) := by unfold I64; omega
   have c2 : (0 : Int) ≤ (k : Int) - 1 ∧ (k : Int) - 1 < (t.length : Int) := ⟨by omega, by omega⟩
   have hm : t[k - 1] ∈ emIdx i := hp.mem_iff.1 (List.getElem_mem hkl)
   have hm := emIdx_mem.1 hm
   have e2 : ix t ((k : Int) - 1) = t[k - 1] := by rw [e1, ix_nat hkl]
   have c3 : (0 : Int) ≤ ix t ((k : Int) - 1) ∧ ix t ((k : Int) - 1) < (l.length : Int) := by rw [e2]; exact ⟨hm.1, by omega⟩
   rw [ck_true (fun _ => h3), ck_true (fun _ => c1), ck_true (fun _ => c2), ck_true (fun _ => c3), ck_true (fun _ => h3), ck_true (fun _ => c1), ck_true (fun _ => c2), ck_true (fun _ => c3), ck_true (fun _ => h3), ck_true (fun _ => c1), ck_true (fun _ => c2), ck_true (fun _ => c3), e2]
   have hlt : ((decide (0 < (k : Int)) && (decide ((ix l (i : Int)).At < (ix l t[k - 1]).At) || (decide ((ix l (i : Int)).At = (ix l t[k - 1]).At) && decide ((ix l (i : Int)).ID < (ix l t[k - 1]).ID)))) = true) ↔ emLtI l (i : Int) t[k - 1] = true := by
    simp only [emLtI, emLt, Bool.and_eq_true, Bool.or_eq_true, decide_eq_true_eq]
    omega
   rcases Nat.lt_or_ge (insAt (emLtI l) (i : Int) t) k with h | h
   ·left
    have hd := insAt_drop (emLtI l) (i : Int) t t[k - 1] (by
     rw [List.mem_drop_iff_getElem]
     exact ⟨k - 1 - insAt (emLtI l) (i : Int) t, by omega, by congr 1; omega⟩)
    rw [if_pos (hlt.2 hd), ck_true c1]
    exact ⟨_, rfl, ⟨k - 1, e1, by omega, by omega⟩, by omega⟩
   ·right
    have he : k = insAt (emLtI l) (i : Int) t := by omega
    obtain ⟨y, hy, hyf⟩ := insAt_stop (emLtI l) (i : Int) t (by omega)
    rw [← he, List.getElem?_eq_getElem hkl] at hy
    injection hy with hy
    rw [if_neg (fun h => by rw [hlt, hy, hyf] at h; cases h), he]
/-- Does record i count behind those that do? -/
def emOk (l : List ApiEmptying) (gap : Int) (out : List Int) (i : Int) : Bool := !(ix l i).Void && out.all fun j => decide ((ix l j).Container ≠ (ix l i).Container) || decide (gap < (ix l i).At - (ix l j).At)
def emKeep (l : List ApiEmptying) (gap : Int) (out : List Int) (i : Int) : List Int := if emOk l gap out i = true then out ++ [i] else out
def emSel (l : List ApiEmptying) (gap : Int) : List Int := (emOrder l).foldl (emKeep l gap) []
theorem emKeep_sub (l : List ApiEmptying) (gap : Int) : ∀ (L acc : List Int), ∀ x ∈ L.foldl (emKeep l gap) acc, x ∈ acc ∨ x ∈ L
 | [], acc, x, hx => .inl hx
 | y :: L, acc, x, hx => by
  rw [List.foldl_cons] at hx
  rcases emKeep_sub l gap L _ x hx with h | h
  ·unfold emKeep at h
   split at h
   ·rcases List.mem_append.1 h with h | h
    ·exact .inl h
    ·rw [List.mem_singleton] at h; subst h; exact .inr (List.mem_cons_self ..)
   ·exact .inl h
  ·exact .inr (List.mem_cons_of_mem _ h)
theorem emKeep_len (l : List ApiEmptying) (gap : Int) : ∀ (L acc : List Int), (L.foldl (emKeep l gap) acc).length ≤ acc.length + L.length
 | [], acc => by simp
 | y :: L, acc => by
  rw [List.foldl_cons]
  have := emKeep_len l gap L (emKeep l gap acc y)
  have h2 : (emKeep l gap acc y).length ≤ acc.length + 1 := by
   unfold emKeep
   split
   ·simp
   ·omega
  simp only [List.length_cons]
  omega
theorem at_sub {l : List ApiEmptying} (hv : ∀ x ∈ l, emFault x 256 16 = 0) {i j : Int} (hi : 0 ≤ i ∧ i < l.length) (hj : 0 ≤ j ∧ j < l.length) : I64 ((ix l i).At - (ix l j).At) := by
 have f : ∀ i : Int, 0 ≤ i ∧ i < l.length → 0 ≤ (ix l i).At ∧ (ix l i).At ≤ 3155759999 := fun i hi => by
  obtain ⟨a, rfl⟩ := Int.eq_ofNat_of_zero_le hi.1
  rw [ix_nat (by omega)]
  have := (emFault_zero (hv _ (List.getElem_mem (show a < l.length by omega)))).2.2
  omega
 have h1 := f i hi
 have h2 := f j hj
 unfold I64; omega
theorem counting_eq {N : Nat} (hN : 700 < N) {l : List ApiEmptying} (hl : l.length ≤ 600) (hv : ∀ x ∈ l, emFault x 256 16 = 0) (gap : Int) : m_recyclingref18_counting N l gap = some (emSel l gap) := by
 unfold m_recyclingref18_counting
 rw [ordered_eq hN hl, Option.bind_some]
 have hol := emOrder_len l
 refine then_ex (emOrder l).length (fun (t : List Int) i => (t, i)) (fun t => t) (fun i t => t = ((emOrder l).take i).foldl (emKeep l gap) []) [] rfl rfl (by omega) (fun i t hi ht => ?_) (fun t _ => by simp only; rw [if_neg (by omega)]) (fun t ht => by subst ht; rw [List.take_length]; rfl)
 have h1 : ((i : Int)) < ((emOrder l).length : Int) := by omega
 have h2 : I64 ((i : Int) + 1) := by unfold I64; omega
 have hmem : ∀ y ∈ t, 0 ≤ y ∧ y < (l.length : Int) := fun y hy => by
  rw [ht] at hy
  rcases emKeep_sub l gap _ _ y hy with h | h
  ·cases h
  ·exact emOrder_mem.1 (List.mem_of_mem_take h)
 have hx := emOrder_mem.1 (List.getElem_mem hi)
 have htl : t.length ≤ i := by
  have := emKeep_len l gap ((emOrder l).take i) []
  rw [← ht, List.length_take] at this
  simp at this; omega
 refine ⟨emKeep l gap t (emOrder l)[i], ?_, by rw [take_succ_get hi, List.foldl_append, ← ht]; rfl⟩
 simp only
 rw [if_pos h1, ck_true ⟨by omega, h1⟩, ix_nat hi, ck_true hx]
 rw [loop_foldl t (fun (b : Bool) k => (b, k)) (fun b y => b && (decide ((ix l y).Container ≠ (ix l (emOrder l)[i]).Container) || decide (gap < (ix l (emOrder l)[i]).At - (ix l y).At))) (fun b => b) (fun _ _ => True) (!(ix l (emOrder l)[i]).Void) rfl trivial (fun k b hk _ => ⟨by
  have hy := hmem _ (List.getElem_mem hk)
  have h3 : I64 ((k : Int) + 1) := by unfold I64; omega
  simp only
  rw [if_pos (by omega), ck_true ⟨by omega, by omega⟩, ix_nat hk, ck_true hy, ck_true (fun _ => at_sub hv hx hy), ck_true h3], trivial⟩) (fun b _ => by simp only; rw [if_neg (by omega)]) (by omega)]
 rw [andThen_next, foldl_and]
 unfold emKeep emOk
 split
 ·rw [ck_true ⟨by omega, h1⟩, ck_true (by simp; omega), andThen_next, ck_true h2]
 ·rw [andThen_next, ck_true h2]
def emCounts (l : List ApiEmptying) (gap : Int) : List Int × Int :=
 if emCheck l 256 16 ≠ 0 then ([], emCheck l 256 16) else if gap < 0 ∨ 86400 < gap then ([], 1) else (emSel l gap, 0)
theorem refCounts_eq {N : Nat} (hN : 700 < N) (l : List ApiEmptying) (gap : Int) : m_recyclingref18_Counts N l gap = some (emCounts l gap) := by
 unfold m_recyclingref18_Counts emCounts
 rw [refECheck_eq (by omega), Option.bind_some]
 by_cases h : emCheck l 256 16 = 0
 ·have h' : ¬ emCheck l 256 16 ≠ 0 := by simpa using h
  rw [if_neg h', if_neg h']
  obtain ⟨hl, hv, _⟩ := emCheck_zero h
  simp only [Bool.or_eq_true, decide_eq_true_eq]
  by_cases hg : gap < 0 ∨ 86400 < gap
  ·rw [if_pos hg, if_pos hg]
  ·rw [if_neg hg, if_neg hg, counting_eq hN (by omega) hv]
   rfl
 ·rw [if_pos h, if_pos h]

/-! ### The program -/
def emCmp (l : List ApiEmptying) (x y : Int) : Int := if cmpI (ix l x).At (ix l y).At ≠ 0 then cmpI (ix l x).At (ix l y).At else cmpI (ix l x).ID (ix l y).ID
theorem sorted1_eq {N : Nat} (hN : 3 ≤ N) {l : List ApiEmptying} {x y : Int} (hx : 0 ≤ x ∧ x < l.length) (hy : 0 ≤ y ∧ y < l.length) : m_emptying_sorted_1 N x y l = some (emCmp l x y) := by
 unfold m_emptying_sorted_1 emCmp
 rw [ck_true hx, ck_true hy]
 simp only [compare_eq, Option.bind_some, or2_eq hN]
 rw [ck_true hx, ck_true hy]
theorem emCmp_lt (l : List ApiEmptying) (x y : Int) : decide (emCmp l x y < 0) = emLtI l x y := by
 unfold emCmp cmpI emLtI emLt
 rw [Bool.eq_iff_iff]
 simp only [decide_eq_true_eq]
 repeat' split
 all_goals omega
theorem emSorted_eq {N : Nat} (hN : 700 < N) {l : List ApiEmptying} (hl : l.length ≤ 600) (hn : (l.map ApiEmptying.ID).Nodup) : m_emptying_sorted N l = some (emOrder l) := by
 unfold m_emptying_sorted
 rw [ck_true ⟨by omega, by omega⟩]
 refine then_ex l.length (fun (t : List Int) i => (t, i)) (fun t => t) (fun i t => t = emIdx i ++ List.replicate (l.length - i) 0) (List.replicate l.length 0) (by rw [Int.toNat_natCast]) (by simp [emIdx]) (by omega) (fun i t hi ht => ?_) (fun t _ => by simp only; rw [if_neg (by simp)]) (fun t ht => ?_)
 ·have htl : t.length = l.length := by rw [ht]; simp [emIdx_len]; omega
  have h2 : I64 ((i : Int) + 1) := by unfold I64; omega
  refine ⟨emIdx (i + 1) ++ List.replicate (l.length - (i + 1)) 0, ?_, rfl⟩
  simp only
  rw [if_pos (by simp; omega), ck_true ⟨by omega, by omega⟩, ck_true h2]
  have : List.set t (Int.toNat (i : Int)) (i : Int) = emIdx (i + 1) ++ List.replicate (l.length - (i + 1)) 0 := by
   rw [ht, Int.toNat_natCast, List.set_append_right _ _ (by rw [emIdx_len]; exact Nat.le_refl _), emIdx_len, Nat.sub_self, emIdx_succ]
   obtain ⟨q, hq⟩ : ∃ q, l.length - i = q + 1 := ⟨l.length - i - 1, by omega⟩
   rw [hq, show l.length - (i + 1) = q by omega, List.replicate_succ, List.set_cons_zero]
   simp
  rw [this]
 ·have ht2 : t = emIdx l.length := by rw [ht]; simp
  subst ht2
  have hlt : ∀ x ∈ emIdx l.length, ∀ y ∈ emIdx l.length, ltO (fun x y => m_emptying_sorted_1 N x y l) x y = emLtI l x y := fun x hx y hy => by
   unfold ltO
   show decide ((m_emptying_sorted_1 N x y l).getD 0 < 0) = _
   rw [sorted1_eq (by omega) (emIdx_mem.1 hx) (emIdx_mem.1 hy), Option.getD_some, emCmp_lt]
  have hok : sortOk (fun x y => m_emptying_sorted_1 N x y l) (emIdx l.length) := by
   refine ⟨fun x hx y hy => by show (m_emptying_sorted_1 N x y l).isSome = true; rw [sorted1_eq (by omega) (emIdx_mem.1 hx) (emIdx_mem.1 hy)]; rfl, fun x hx => ?_, fun x hx y hy z hz => ?_, fun x hx y hy z hz => ?_, fun x hx y hy => ?_⟩
   ·rw [hlt x hx x hx]; exact emLt_irrefl _
   ·rw [hlt x hx y hy, hlt y hy z hz, hlt x hx z hz]; exact emLt_trans
   ·rw [hlt x hx y hy, hlt y hy z hz, hlt x hx z hz]
    unfold emLtI emLt
    simp only [decide_eq_false_iff_not]
    omega
   ·rw [hlt x hx y hy, hlt y hy x hx]
    intro h1 h2
    have hx := emIdx_mem.1 hx
    have hy := emIdx_mem.1 hy
    refine id_inj hn hx.1 hx.2 hy.1 hy.2 ?_
    unfold emLtI emLt at h1 h2
    simp only [decide_eq_false_iff_not] at h1 h2
    omega
  rw [ck_true ⟨hok, by rw [emIdx_len]; omega⟩]
  congr 1
  refine sorted_unique (lt := fun a b => emLtI l a b = true) (fun a _ b _ h1 h2 => ?_) ((sortO_perm _ _).trans (emOrder_perm l).symm) ?_ (emOrder_sorted hn)
  ·have := emLt_trans h1 h2
   rw [emLt_irrefl] at this
   cases this
  ·refine List.Pairwise.imp_of_mem (fun {a b} ha hb h => ?_) (sortO_sorted hok (emIdx_nodup _))
   rw [← hlt a ((sortO_perm _ _).mem_iff.1 ha) b ((sortO_perm _ _).mem_iff.1 hb)]
   exact h
/-- When the last record of container c that counts was. -/
def lastAt (l : List ApiEmptying) (out : List Int) (c : Int) : Option Int := ((out.filter fun j => decide ((ix l j).Container = c)).getLast?).map fun j => (ix l j).At
theorem lastAt_add (l : List ApiEmptying) (out : List Int) (i c : Int) : lastAt l (out ++ [i]) c = if c = (ix l i).Container then some (ix l i).At else lastAt l out c := by
 unfold lastAt
 rw [List.filter_append]
 by_cases h : (ix l i).Container = c
 ·rw [if_pos h.symm]
  simp [h]
 ·rw [if_neg (fun e => h e.symm)]
  simp [h]
theorem lastAt_max {l : List ApiEmptying} {out : List Int} (hs : out.Pairwise fun a b => (ix l a).At ≤ (ix l b).At) {i : Int} (gap : Int) :
  (out.all fun j => decide ((ix l j).Container ≠ (ix l i).Container) || decide (gap < (ix l i).At - (ix l j).At)) = !((lastAt l out (ix l i).Container).isSome && decide ((ix l i).At - (lastAt l out (ix l i).Container).getD 0 ≤ gap)) := by
 unfold lastAt
 generalize hf : (out.filter fun j => decide ((ix l j).Container = (ix l i).Container)) = F
 have hall : (out.all fun j => decide ((ix l j).Container ≠ (ix l i).Container) || decide (gap < (ix l i).At - (ix l j).At)) = F.all fun j => decide (gap < (ix l i).At - (ix l j).At) := by
  rw [← hf, List.all_filter]
  refine List.all_congr rfl fun j => ?_
  by_cases h : (ix l j).Container = (ix l i).Container <;> simp [h]
 rw [hall]
 have hsF : F.Pairwise fun a b => (ix l a).At ≤ (ix l b).At := by rw [← hf]; exact hs.filter _
 rcases List.eq_nil_or_concat F with h | ⟨L, b, h⟩
 ·rw [h]; rfl
 ·rw [h] at hsF ⊢
  have hb := (List.pairwise_append.1 (by simpa using hsF)).2.2
  simp only [List.concat_eq_append, List.getLast?_concat, Option.map_some, Option.isSome_some, Option.getD_some, Bool.true_and]
  rw [Bool.eq_iff_iff]
  simp only [List.all_eq_true, decide_eq_true_eq, Bool.not_eq_true', decide_eq_false_iff_not]
  constructor
  ·intro hh
   have := hh b (by simp)
   omega
  ·intro hh j hj
   rcases List.mem_append.1 hj with hj | hj
   ·have := hb j hj b (List.mem_singleton.2 rfl)
    omega
   ·rw [List.mem_singleton] at hj; subst hj; omega
theorem emSel_At {l : List ApiEmptying} (hn : (l.map ApiEmptying.ID).Nodup) (gap : Int) (i : Nat) : (((emOrder l).take i).foldl (emKeep l gap) []).Pairwise (fun a b => emLtI l a b = true) := by
 have key : ∀ (L acc : List Int), acc.Pairwise (fun a b => emLtI l a b = true) → (acc ++ L).Pairwise (fun a b => emLtI l a b = true) → (L.foldl (emKeep l gap) acc).Pairwise (fun a b => emLtI l a b = true) := by
  intro L
  induction L with
  | nil => intro acc h _; exact h
  | cons y L ih =>
   intro acc h hp
   rw [List.foldl_cons]
   have hp2 : (acc ++ [y] ++ L).Pairwise (fun a b => emLtI l a b = true) := by simpa using hp
   unfold emKeep
   split
   ·exact ih _ ((List.pairwise_append.1 hp2).1) hp2
   ·refine ih _ h ?_
    obtain ⟨q1, q2, q3⟩ := List.pairwise_append.1 hp
    exact List.pairwise_append.2 ⟨q1, (List.pairwise_cons.1 q2).2, fun a ha b hb => q3 a ha b (List.mem_cons_of_mem _ hb)⟩
 exact key _ _ List.Pairwise.nil (by simpa using (emOrder_sorted hn).sublist (List.take_sublist _ _))
theorem progECounts_eq {N : Nat} (hN : 700 < N) (l : List ApiEmptying) (gap : Int) : m_emptying_Counts N l gap = some (emCounts l gap) := by
 unfold m_emptying_Counts emCounts m_emptying_within
 rw [progECheck_eq (by omega), Option.bind_some]
 by_cases h : emCheck l 256 16 = 0
 ·have h' : ¬ emCheck l 256 16 ≠ 0 := by simpa using h
  rw [if_neg h', if_neg h']
  obtain ⟨hl, hv, hn⟩ := emCheck_zero h
  simp only [Option.bind_some, Bool.not_eq_true', Bool.and_eq_false_iff, decide_eq_false_iff_not]
  by_cases hg : gap < 0 ∨ 86400 < gap
  ·rw [if_pos (by omega), if_pos hg]
  ·rw [if_neg (by omega), if_neg hg, emSorted_eq hN (by omega) hn, Option.bind_some]
   have hol := emOrder_len l
   refine then_ex (emOrder l).length (fun (t : List (Int × Int) × List Int) i => (t.1, t.2, i)) (fun t => t.2) (fun i t => t.2 = ((emOrder l).take i).foldl (emKeep l gap) [] ∧ ∀ c, mget t.1 c = lastAt l t.2 c) ([], []) rfl ⟨rfl, fun c => rfl⟩ (by omega)
    (fun i t hi ht => ?_) (fun t _ => by simp only; rw [if_neg (by omega)]) (fun t ht => by rw [ht.1, List.take_length]; rfl)
   obtain ⟨last, out⟩ := t
   obtain ⟨ht, hlast⟩ := ht
   simp only at ht hlast
   have h1 : ((i : Int)) < ((emOrder l).length : Int) := by omega
   have h2 : I64 ((i : Int) + 1) := by unfold I64; omega
   have hmem : ∀ y ∈ out, 0 ≤ y ∧ y < (l.length : Int) := fun y hy => by
    rw [ht] at hy
    rcases emKeep_sub l gap _ _ y hy with h | h
    ·cases h
    ·exact emOrder_mem.1 (List.mem_of_mem_take h)
   have hx := emOrder_mem.1 (List.getElem_mem hi)
   generalize hxi : (emOrder l)[i] = x at hx
   have hxv : emFault (ix l x) 256 16 = 0 := by
    obtain ⟨a, rfl⟩ := Int.eq_ofNat_of_zero_le hx.1
    rw [ix_nat (by omega)]
    exact hv _ (List.getElem_mem _)
   have hxf := emFault_zero hxv
   have h3 : I64 (ix l x).Container := by unfold I64; omega
   have htl : out.length ≤ i := by
    have := emKeep_len l gap ((emOrder l).take i) []
    rw [← ht, List.length_take] at this
    simp at this; omega
   have h4 : I64 ((ix l x).At - (lastAt l out (ix l x).Container).getD 0) := by
    unfold lastAt
    cases hg : (out.filter fun j => decide ((ix l j).Container = (ix l x).Container)).getLast? with
    | none => simp only [Option.map_none, Option.getD_none]; unfold I64; omega
    | some j => exact at_sub hv hx (hmem j ((List.mem_filter.1 (List.mem_of_getLast? hg)).1))
   have hsrt : out.Pairwise fun a b => (ix l a).At ≤ (ix l b).At := by
    rw [ht]
    refine (emSel_At hn gap i).imp fun {a b} h => ?_
    unfold emLtI emLt at h
    simp only [decide_eq_true_eq] at h
    omega
   have hmax := lastAt_max hsrt (i := x) gap
   refine ⟨(if emOk l gap out x = true then mput last (ix l x).Container (ix l x).At else last, emKeep l gap out x), ?_, ?_, fun c => ?_⟩
   ·simp only
    rw [if_pos h1, ck_true ⟨by omega, h1⟩, ix_nat hi, hxi, ck_true hx, ck_true h3, hlast, ck_true (fun _ => h4)]
    have hcond : ((ix l x).Void || (lastAt l out (ix l x).Container).isSome && decide ((ix l x).At - (lastAt l out (ix l x).Container).getD 0 ≤ gap)) = !(emOk l gap out x) := by
     unfold emOk
     rw [hmax]
     cases (ix l x).Void <;> simp
    rw [hcond]
    unfold emKeep
    cases emOk l gap out x with
    | false => simp only [Bool.not_false, if_true, Bool.false_eq_true, if_false]; rw [andThen_next, ck_true h2]
    | true =>
     simp only [Bool.not_true, Bool.false_eq_true, if_false, if_true]
     rw [ck_true h3, ck_true (by simp; omega), andThen_next, ck_true h2]
   ·simp only
    rw [take_succ_get hi, List.foldl_append, ← ht, hxi]
    rfl
   ·simp only
    unfold emKeep
    split
    ·rw [mget_mput, lastAt_add, hlast]
    ·exact hlast c
 ·rw [if_pos h, if_pos h]
end Go.Proofs.YtbnimhmoffchdaaGreatDoor
