/- Layer 54 in plain words: the explanation of an item, the program and the reference alike. -/
import Derived.Test.YtpbgfdmkebnjgaaGreatDoorBilP5
import Derived.Test.YtpbgfdmkebnjgaaGreatDoorBLExplains
import Derived.Test.YtpbgfdmkebnjgaaGreatDoorBilOpen
import Derived.Lib.ItoaLen
namespace Go.Proofs.YtpbgfdmkebnjgaaGreatDoor

def itoaS (n : Int) : ByteArray := ⟨(Lib.itoa n).toArray⟩
theorem itoaS_eq {N : Nat} {n : Int} (h : I64 n) : m_strconv_Itoa N n = some (itoaS n) := ck_true h
theorem itoaS_size {n : Int} (h : I64 n) : (itoaS n).size ≤ 21 := by
  have := Lib.itoa_length_le n h.1 h.2
  show (Lib.itoa n).toArray.size ≤ 21
  rwa [List.size_toArray]
def wordOf : IfV → ByteArray
  | .int _ n => itoaS n
  | .str _ s => s
  | _ => ⟨#[]⟩
def wordOk : IfV → Prop
  | .int t n => t = 3 ∧ I64 n
  | .str t s => t = 9 ∧ s.size ≤ 1000
  | _ => False
def joinB (l : List IfV) : ByteArray := ⟨(Lib.join (l.map fun x => (wordOf x).data.toList) [32]).toArray⟩
theorem wordOf_len {x : IfV} (h : wordOk x) : (wordOf x).data.toList.length ≤ 1000 := by
  cases x with
  | int t n =>
    have := itoaS_size h.2
    rw [Array.length_toList]
    exact Nat.le_trans this (by omega)
  | str t s => rw [Array.length_toList]; exact h.2
  | nil => exact h.elim
  | obj t => exact h.elim
theorem joinTail_len {l : List (List UInt8)} (h : ∀ x ∈ l, x.length ≤ 1000) : (Lib.joinTail [32] l).length ≤ 1001 * l.length := by
  induction l with
  | nil => exact Nat.zero_le _
  | cons x l ih =>
    have h1 := h x (List.mem_cons_self ..)
    have h2 := ih fun y hy => h y (List.mem_cons_of_mem _ hy)
    unfold Lib.joinTail at *
    rw [List.map_cons, List.flatten_cons, List.length_append, List.length_append, List.length_cons, List.length_cons, List.length_nil]
    omega
theorem join_len {l : List IfV} (hl : l.length ≤ 100) (h : ∀ x ∈ l, wordOk x) : (Lib.join (l.map fun x => (wordOf x).data.toList) [32]).length ≤ 200000 := by
  cases l with
  | nil => exact Nat.zero_le _
  | cons x l =>
    rw [List.map_cons, Lib.join_cons, List.length_append]
    have h1 := wordOf_len (h x (List.mem_cons_self ..))
    have h2 := joinTail_len (l := l.map fun x => (wordOf x).data.toList) fun y hy => by
      obtain ⟨z, hz, rfl⟩ := List.mem_map.1 hy
      exact wordOf_len (h z (List.mem_cons_of_mem _ hz))
    rw [List.length_map] at h2
    rw [List.length_cons] at hl
    omega
theorem set_take {α : Type} (t : List α) (i : Nat) (hi : i < t.length) (w : α) : (t.set i w).take (i + 1) = t.take i ++ [w] := by
  rw [take_succ_get (by simpa using hi), List.getElem_set_self, List.take_set_of_le (Nat.le_refl i)]
theorem words_eq {N : Nat} (hN : 100 < N) {l : List IfV} (hl : l.length ≤ 100) (h : ∀ x ∈ l, wordOk x) : m_bill_words N l = some (joinB l) := by
  unfold m_bill_words
  rw [ck_true ⟨by omega, by rw [Int.toNat_natCast]; omega⟩]
  refine then_ex l.length (fun (t : List ByteArray) i => (t, i)) (fun t => t) (fun i t => t.length = l.length ∧ t.take i = (l.take i).map wordOf) (List.replicate (Int.toNat (l.length : Int)) (⟨#[]⟩ : ByteArray)) rfl (by simp) (by omega) (fun i t hi ht => ?_) (fun t _ => by simp only; rw [if_neg (by omega)]) (fun t ht => ?_)
  · have h1 : ((i : Int)) < (l.length : Int) := by omega
    have h2 : I64 ((i : Int) + 1) := by unfold I64; omega
    have hit : i < t.length := by omega
    have hw := h _ (List.getElem_mem hi)
    refine ⟨t.set i (wordOf l[i]), ?_, by rw [List.length_set]; exact ht.1, by rw [set_take t i hit, ht.2, take_succ_get hi, List.map_append, List.map_cons, List.map_nil]⟩
    simp only
    rw [if_pos h1, ck_true ⟨by omega, h1⟩, ix_nat hi]
    generalize l[i] = x at *
    cases x with
    | int a n =>
      obtain ⟨rfl, hn⟩ := hw
      rw [ck_true (show ifOkInt 3 (IfV.int 3 n) = true from rfl), if_pos (show ifIsInt 3 (IfV.int 3 n) = true from rfl)]
      rw [show ifInt 3 (IfV.int 3 n) = n from rfl, itoaS_eq hn, Option.bind_some, ck_true ⟨by omega, by omega⟩, andThen_next, ck_true h2, Int.toNat_natCast]
      rfl
    | str a s =>
      obtain ⟨rfl, hn⟩ := hw
      rw [ck_true (show ifOkInt 3 (IfV.str 9 s) = true from rfl), if_neg (show ¬ ifIsInt 3 (IfV.str 9 s) = true from fun h => by cases h), ck_true (show ifOkStr 9 (IfV.str 9 s) = true from rfl), if_pos (show ifIsStr 9 (IfV.str 9 s) = true from rfl)]
      rw [ck_true ⟨by omega, by omega⟩, andThen_next, ck_true h2, Int.toNat_natCast]
      rfl
    | nil => exact hw.elim
    | obj a => exact hw.elim
  · obtain ⟨ht1, ht2⟩ := ht
    rw [List.take_length, ← ht1, List.take_length] at ht2
    subst ht2
    have h3 := join_len hl h
    have e1 : (l.map wordOf).map (fun x => x.data.toList) = l.map fun x => (wordOf x).data.toList := by rw [List.map_map]; rfl
    unfold m_strings_Join
    rw [e1, ck_true ⟨by rw [List.length_map]; omega, by show (Lib.join _ [32]).length ≤ _; omega⟩]
    rfl
theorem bytes_eq {a b : ByteArray} (h : a.data.toList = b.data.toList) : a = b := by
  cases a; cases b
  simp only at h
  congr
  exact Array.toList_inj.1 h
theorem bytes_app (a b : ByteArray) : (a ++ b).data.toList = a.data.toList ++ b.data.toList := by
  simp
theorem bytes_mk (l : List UInt8) : (ByteArray.mk l.toArray).data.toList = l := rfl
theorem joinB_cons (x : IfV) (l : List IfV) : (joinB (x :: l)).data.toList = (wordOf x).data.toList ++ Lib.joinTail [32] (l.map fun x => (wordOf x).data.toList) := by
  unfold joinB
  rw [bytes_mk, List.map_cons, Lib.join_cons]
theorem joinTail_cons (x : List UInt8) (l : List (List UInt8)) : Lib.joinTail [32] (x :: l) = 32 :: (x ++ Lib.joinTail [32] l) := by
  unfold Lib.joinTail
  simp
theorem joinTail_nil : Lib.joinTail [32] [] = [] := rfl
theorem colon_eq {N : Nat} {n : Int} (h : I64 n) : m_bill_colon N n = some (itoaS n ++ (⟨#[58]⟩ : ByteArray)) := by
  unfold m_bill_colon
  have := itoaS_size h
  rw [itoaS_eq h, Option.bind_some, ck_true]
  show (itoaS n).size + 1 ≤ _
  omega
theorem app_size (a b : ByteArray) : (a ++ b).size = a.size + b.size := ByteArray.size_append
theorem lit_size (l : List UInt8) : ByteArray.size ⟨l.toArray⟩ = l.length := rfl
/-! ### The record of an emptying -/
def emK (l : List ApiEmptying) (ref : Int) : Nat := l.findIdx fun x => decide (x.ID = ref)
theorem emK_le (l : List ApiEmptying) (ref : Int) : emK l ref ≤ l.length := List.findIdx_le_length
theorem emK_before {l : List ApiEmptying} {ref : Int} {i : Nat} (h : i < emK l ref) (hi : i < l.length) : l[i].ID ≠ ref := by
  have := List.not_of_lt_findIdx h
  simpa using this
theorem emK_at {l : List ApiEmptying} {ref : Int} (h : emK l ref < l.length) : l[emK l ref].ID = ref := by
  unfold emK at h ⊢
  have := List.findIdx_getElem (w := h)
  simpa using this
theorem idxProg {N : Nat} {l : List ApiEmptying} (hN : l.length < N) (hl : l.length ≤ 1000) (x : ApiItem) : m_slices_IndexFunc_bill_explainEmptying_1 N l x = some (if emK l x.Ref < l.length then (emK l x.Ref : Int) else -1) := by
  unfold m_slices_IndexFunc_bill_explainEmptying_1 m_bill_explainEmptying_1
  refine then_exE l.length (fun (_ : Unit) i => i) (fun _ => ()) (fun i _ => i ≤ emK l x.Ref) (fun r => r = (emK l x.Ref : Int) ∧ emK l x.Ref < l.length) () rfl (Nat.zero_le _) hN (fun i t hi ht => ?_) (fun t _ => by rw [if_neg (by omega)]) (fun t ht => ?_) (fun r hr => ?_)
  · have h1 : ((i : Int)) < (l.length : Int) := by omega
    rw [if_pos h1, ck_true ⟨by omega, h1⟩, ix_nat hi, Option.bind_some, ck_true (by unfold I64; omega)]
    by_cases hk : i = emK l x.Ref
    · right
      subst hk
      rw [emK_at hi, decide_eq_true rfl, if_pos rfl]
      exact ⟨_, rfl, rfl, hi⟩
    · left
      have := emK_before (by omega : i < emK l x.Ref) hi
      rw [decide_eq_false this, if_neg (by decide)]
      exact ⟨(), rfl, by omega⟩
  · rw [if_neg (by omega)]
  · rw [hr.1, if_pos hr.2]
theorem bilSpec_con {a : ApiAccount} (h : bilSpec a = 0) : (∀ x ∈ a.Containers, x.ID.size ≤ 32) ∧ ∀ x ∈ a.Emptyings, emFault x a.Containers.length 16 = 0 := by
  unfold bilSpec at h
  split at h
  · exact absurd h ‹_›
  · rename_i h1
    split at h
    · exact absurd h ‹_›
    · split at h
      · exact absurd h ‹_›
      · rename_i h3
        refine ⟨fun x hx => ?_, (emCheck_zero (Decidable.not_not.1 h3)).2.1⟩
        have hc := Decidable.not_not.1 h1
        unfold conSpec at hc
        split at hc
        · omega
        · split at hc
          · rename_i e he
            unfold fstBad at he
            obtain ⟨y, _, hy⟩ := List.exists_of_findSome?_eq_some he
            split at hy
            · cases hy
            · injection hy with hy
              rw [← hy] at hc
              exact absurd hc ‹_›
          · rename_i he
            have h0 := fstBad_none he x hx
            have h4 := (identB_eq x.ID).2.2
            unfold conFault at h0
            cases hi : identB x.ID with
            | true => exact h4 hi
            | false =>
              rw [hi] at h0
              simp at h0
theorem explain_same (a : ApiAccount) (b : ApiBill) (i : Int) (hb : ∀ x ∈ b.Items, wfApiItem x) : ∃ v, m_bill_Explain 40000 a b i = some v ∧ m_recyclingref54_Explain 40000 a b i = some v := by
  unfold m_bill_Explain m_recyclingref54_Explain
  rw [bilProg_eq, bilRef_eq, Option.bind_some, Option.bind_some]
  by_cases ha : bilSpec a ≠ 0
  · rw [if_pos ha, if_pos ha]; exact ⟨_, rfl, rfl⟩
  · rw [if_neg ha, if_neg ha]
    have ha' := Decidable.not_not.1 ha
    have hl : a.Emptyings.length ≤ 1000 := by have := (emCheck_zero (bilSpec_zero ha').2.1).1; omega
    by_cases hi : (decide (i < 0) || decide ((b.Items.length : Int) ≤ i)) = true
    · rw [if_pos hi, if_pos hi]; exact ⟨_, rfl, rfl⟩
    · rw [if_neg hi, if_neg hi]
      simp only [Bool.or_eq_true, decide_eq_true_eq, not_or] at hi
      rw [ck_true ⟨by omega, by omega⟩, ck_true ⟨by omega, by omega⟩]
      obtain ⟨k, rfl⟩ := Int.eq_ofNat_of_zero_le (by omega : 0 ≤ i)
      have hk : k < b.Items.length := by omega
      have hw := hb _ (List.getElem_mem hk)
      rw [ix_nat hk]
      generalize b.Items[k] = x at *
      unfold wfApiItem at hw
      obtain ⟨w1, w2, w3, w4, w5⟩ := hw
      have s2 := itoaS_size w2
      have s3 := itoaS_size w3
      have s4 := itoaS_size w4
      have s5 := itoaS_size w5
      rw [itoaS_eq w2, itoaS_eq w5, itoaS_eq w3, itoaS_eq w4, colon_eq w2]
      simp only [Option.bind_some]
      by_cases h1 : x.Kind = 1
      · rw [if_pos h1]
        by_cases hr : (decide (x.Ref < 0) || decide ((a.Tariffs.length : Int) ≤ x.Ref)) = true
        · rw [if_pos hr, if_neg (by simp; omega), ck_true (by simp only [lit_size, List.length_cons, List.length_nil]; omega), if_neg (by simp; omega), if_neg (by omega), if_pos h1, if_pos hr]; exact ⟨_, rfl, rfl⟩
        · rw [if_neg hr]
          rw [words_eq (by omega) (by simp) (by
            intro y hy
            simp only [List.mem_cons, List.not_mem_nil, or_false] at hy
            rcases hy with rfl | rfl | rfl | rfl | rfl | rfl | rfl <;> simp [wordOk, w3, w4, w5, lit_size] <;> omega), Option.bind_some]
          rw [if_neg (by simp; omega), ck_true (by simp only [lit_size, List.length_cons, List.length_nil]; omega), if_neg (by simp; omega), if_neg (by omega), if_pos h1, if_neg hr]
          iterate 6 rw [ck_true (by simp only [app_size, lit_size, List.length_cons, List.length_nil]; omega)]
          refine ⟨_, rfl, ?_⟩
          congr 2
          refine bytes_eq ?_
          simp only [joinB_cons, joinTail_cons, joinTail_nil, List.map_cons, List.map_nil, wordOf, bytes_app, List.append_assoc, List.cons_append, List.nil_append, List.append_nil]
      · rw [if_neg h1]
        by_cases h23 : x.Kind = 2 ∨ x.Kind = 3
        · have e1 : (if x.Kind = 2 then some (Step.next (decide (x.Kind = 2))) else some (Step.next (decide (x.Kind = 3))) : Option (Step Bool (ByteArray × Int))) = some (.next true) := by
            rcases h23 with h | h
            · rw [if_pos h, decide_eq_true h]
            · rw [if_neg (by omega), decide_eq_true h]
          rw [e1, andThen_next, if_pos rfl]
          rw [if_neg (by simp; omega), ck_true (by simp only [lit_size, List.length_cons, List.length_nil]; omega), if_neg (by simp; omega), if_neg (by omega), if_neg h1]
          unfold m_bill_explainEmptying
          rw [idxProg (by omega) hl, Option.bind_some]
          have hrun : (loopM (fun (s72 : Int) => ck (decide (s72 < (List.length a.Emptyings : Int)) = true → (0 : Int) ≤ s72 ∧ s72 < (List.length a.Emptyings : Int)) (if ((decide (s72 < (List.length a.Emptyings : Int))) && (decide ((ix a.Emptyings s72).ID ≠ x.Ref))) = true then ck (I64 (s72 + (1 : Int))) (some (.next (s72 + (1 : Int)))) else some (.done (.next s72)))) 40000 0 : Option (Step Int (ByteArray × Int))) = some (.next (emK a.Emptyings x.Ref : Int)) := by
            have hle := emK_le a.Emptyings x.Ref
            refine loopM_run (fun i => (i : Int)) (emK a.Emptyings x.Ref) (fun i hi => ?_) ?_ (by omega)
            · have hil : i < a.Emptyings.length := by omega
              rw [ck_true (fun _ => ⟨by omega, by omega⟩), ix_nat hil, decide_eq_true (by omega : (i : Int) < (a.Emptyings.length : Int)), decide_eq_true (emK_before hi hil), Bool.and_self, if_pos rfl, ck_true (by unfold I64; omega), Int.natCast_add, Int.natCast_one]
            · by_cases hk : emK a.Emptyings x.Ref < a.Emptyings.length
              · rw [ck_true (fun _ => ⟨by omega, by omega⟩), ix_nat hk, emK_at hk]
                simp
              · rw [ck_true (fun h => ⟨by omega, by simpa using h⟩), decide_eq_false (by omega), Bool.false_and, if_neg (by decide)]
          rw [hrun, andThen_next]
          by_cases hk : emK a.Emptyings x.Ref < a.Emptyings.length
          · have hck : (0 : Int) ≤ (emK a.Emptyings x.Ref : Int) ∧ (emK a.Emptyings x.Ref : Int) < (a.Emptyings.length : Int) := by omega
            rw [if_pos hk, if_neg (show ¬ (emK a.Emptyings x.Ref : Int) < 0 from by omega), if_neg (show ¬ (emK a.Emptyings x.Ref : Int) = (a.Emptyings.length : Int) from by omega), ck_true hck, ck_true hck, ix_nat hk]
            have hcon := (bilSpec_con ha').2 _ (List.getElem_mem hk)
            have hid := (bilSpec_con ha').1
            generalize a.Emptyings[emK a.Emptyings x.Ref] = y at *
            have hy := emFault_zero hcon
            have i1 : I64 y.Mass.Lo := by unfold I64; omega
            have i2 : I64 y.Mass.Hi := by unfold I64; omega
            have i3 : I64 y.At := by unfold I64; omega
            have i4 : I64 y.Vehicle := by unfold I64; omega
            have hq : Int.tdiv y.At 86400 = y.At / 86400 := Int.tdiv_eq_ediv_of_nonneg (by omega)
            have hr : Int.tmod y.At 86400 = y.At % 86400 := Int.tmod_eq_emod_of_nonneg (by omega)
            have i5 : I64 (Int.tdiv y.At 86400) := by rw [hq]; unfold I64; omega
            have i6 : I64 (Int.tmod y.At 86400) := by rw [hr]; unfold I64; omega
            have z1 := itoaS_size i1
            have z2 := itoaS_size i2
            have z4 := itoaS_size i4
            have z5 := itoaS_size i5
            have z6 := itoaS_size i6
            by_cases h3 : x.Kind = 3
            · rw [if_pos h3, if_pos h3, colon_eq w4, Option.bind_some]
              rw [words_eq (by omega) (by simp) (by
                intro z hz
                simp only [List.mem_cons, List.not_mem_nil, or_false] at hz
                rcases hz with rfl | rfl | rfl | rfl | rfl | rfl | rfl | rfl | rfl | rfl | rfl <;> simp [wordOk, w2, w3, w5, i1, i2, lit_size] <;> omega), Option.bind_some]
              rw [itoaS_eq i1, itoaS_eq i2]
              simp only [Option.bind_some]
              iterate 10 rw [ck_true (by simp only [app_size, lit_size, List.length_cons, List.length_nil]; omega)]
              refine ⟨_, rfl, ?_⟩
              congr 2
              refine bytes_eq ?_
              simp only [joinB_cons, joinTail_cons, joinTail_nil, List.map_cons, List.map_nil, wordOf, bytes_app, List.append_assoc, List.cons_append, List.nil_append, List.append_nil]
            · have hc : (0 : Int) ≤ y.Container ∧ y.Container < (a.Containers.length : Int) := by omega
              have hcs : (ix a.Containers y.Container).ID.size ≤ 32 := by
                obtain ⟨j, hj⟩ := Int.eq_ofNat_of_zero_le hc.1
                have hj' : j < a.Containers.length := by omega
                rw [hj, ix_nat hj']
                exact hid _ (List.getElem_mem hj')
              rw [if_neg h3, if_neg h3, colon_eq i4, Option.bind_some, ck_true hc, ck_true i3, ck_true i3]
              rw [words_eq (by omega) (by simp) (by
                intro z hz
                simp only [List.mem_cons, List.not_mem_nil, or_false] at hz
                rcases hz with rfl | rfl | rfl | rfl | rfl | rfl | rfl | rfl | rfl | rfl | rfl <;> simp [wordOk, w2, w5, i5, i6, lit_size] <;> omega), Option.bind_some]
              rw [itoaS_eq i5, itoaS_eq i6, itoaS_eq i4]
              simp only [Option.bind_some]
              iterate 2 rw [ck_true (by simp only [app_size, lit_size, List.length_cons, List.length_nil]; omega)]
              rw [ck_true hc]
              iterate 2 rw [ck_true (by simp only [app_size, lit_size, List.length_cons, List.length_nil]; omega)]
              rw [ck_true i3]
              iterate 2 rw [ck_true (by simp only [app_size, lit_size, List.length_cons, List.length_nil]; omega)]
              rw [ck_true i3]
              iterate 4 rw [ck_true (by simp only [app_size, lit_size, List.length_cons, List.length_nil]; omega)]
              refine ⟨_, rfl, ?_⟩
              congr 2
              refine bytes_eq ?_
              simp only [joinB_cons, joinTail_cons, joinTail_nil, List.map_cons, List.map_nil, wordOf, bytes_app, List.append_assoc, List.cons_append, List.nil_append, List.append_nil]
          · have hk2 : emK a.Emptyings x.Ref = a.Emptyings.length := by have := emK_le a.Emptyings x.Ref; omega
            rw [if_neg hk, if_pos (show (-1 : Int) < 0 from by decide), if_pos (show (emK a.Emptyings x.Ref : Int) = (a.Emptyings.length : Int) from by omega)]
            exact ⟨_, rfl, rfl⟩
        · have e1 : (if x.Kind = 2 then some (Step.next (decide (x.Kind = 2))) else some (Step.next (decide (x.Kind = 3))) : Option (Step Bool (ByteArray × Int))) = some (.next false) := by
            rw [if_neg (by omega), decide_eq_false (by omega)]
          rw [e1, andThen_next, if_neg (by decide)]
          by_cases h4 : x.Kind = 4
          · rw [if_pos h4]
            have hr1 : ¬ (decide (x.Kind < 1) || decide (4 < x.Kind)) = true := by rw [h4]; decide
            by_cases h0 : x.Ref = 0
            · have hr2 : (decide (x.Kind = 4) && decide (x.Ref = 0)) = true := by rw [h4, h0]; rfl
              rw [if_pos h0, if_neg hr1, if_pos hr2]
              rw [words_eq (by omega) (by simp) (by
                intro y hy
                simp only [List.mem_cons, List.not_mem_nil, or_false] at hy
                rcases hy with rfl | rfl <;> simp [wordOk, w5, lit_size]), Option.bind_some]
              iterate 2 rw [ck_true (by simp only [app_size, lit_size, List.length_cons, List.length_nil]; omega)]
              refine ⟨_, rfl, ?_⟩
              congr 2
              refine bytes_eq ?_
              simp only [joinB_cons, joinTail_cons, joinTail_nil, List.map_cons, List.map_nil, wordOf, bytes_app, List.cons_append, List.nil_append, List.append_nil]
            · have hr2 : ¬ (decide (x.Kind = 4) && decide (x.Ref = 0)) = true := by rw [decide_eq_false h0, Bool.and_false]; decide
              rw [if_neg h0, if_neg hr1, if_neg hr2, if_pos h4]
              rw [words_eq (by omega) (by simp) (by
                intro y hy
                simp only [List.mem_cons, List.not_mem_nil, or_false] at hy
                rcases hy with rfl | rfl | rfl <;> simp [wordOk, w5, lit_size] <;> omega), Option.bind_some]
              iterate 3 rw [ck_true (by simp only [app_size, lit_size, List.length_cons, List.length_nil]; omega)]
              refine ⟨_, rfl, ?_⟩
              congr 2
              refine bytes_eq ?_
              simp only [joinB_cons, joinTail_cons, joinTail_nil, List.map_cons, List.map_nil, wordOf, bytes_app, List.append_assoc, List.cons_append, List.nil_append, List.append_nil]
          · rw [if_neg h4, if_pos (by simp; omega)]
            exact ⟨_, rfl, rfl⟩
theorem lawBExplains_eq (a : ApiAccount) (b : ApiBill) (i : Int) (hb : ∀ x ∈ b.Items, wfApiItem x) : m_recyclinglaw54_BillExplains 40000 a b i = some true := by
  unfold m_recyclinglaw54_BillExplains
  obtain ⟨g, eg, hg⟩ := great_ex a
  rw [eg, Option.bind_some, bilAwake_eq]
  by_cases hz : (g || decide (600 < (b.Items.length : Int))) = true
  · rw [if_pos hz]; rfl
  · rw [if_neg hz]
    simp only [Bool.or_eq_true, not_or] at hz
    obtain ⟨v, e1, e2⟩ := explain_same a b i hb
    rw [e1, e2, Option.bind_some, Option.bind_some, decide_eq_true rfl, decide_eq_true rfl]
    rfl
end Go.Proofs.YtpbgfdmkebnjgaaGreatDoor
