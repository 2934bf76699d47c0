/- Layer 54 in plain words: every item of a bill is explained. -/
import Derived.Test.YtpbgfdmkebnjgaaGreatDoorBilP8
import Derived.Test.YtpbgfdmkebnjgaaGreatDoorBilP6
import Derived.Test.YtpbgfdmkebnjgaaGreatDoorBLWords
namespace Go.Proofs.YtpbgfdmkebnjgaaGreatDoor

/-! ### Parts of strings -/
theorem extract_list (s : ByteArray) (i j : Nat) : (s.extract i j).data.toList = (s.data.toList.drop i).take (j - i) := by
  rw [ByteArray.data_extract, Array.toList_extract]
theorem has_iff {N : Nat} {s p : ByteArray} (hN : s.size + 1 < N) (hs : s.size ≤ 1000000) (hp : p.size ≤ 1000) :
    ∃ v, m_recyclinglaw54_has N s p = some v ∧ (v = true ↔ ∃ i : Nat, i + p.size ≤ s.size ∧ s.extract i (i + p.size) = p) := by
  unfold m_recyclinglaw54_has
  have key := loop_exE (ρ := Bool) (β := Unit) (N := N) (f := fun (s47 : Int) =>
   ck (I64 (s47 + (ByteArray.size p : Int))) (
    (if (s47 + (ByteArray.size p : Int)) ≤ (ByteArray.size s : Int) then
     ck (I64 (s47 + (ByteArray.size p : Int))) (
      ck ((0 : Int) ≤ s47 ∧ s47 ≤ (s47 + (ByteArray.size p : Int)) ∧ (s47 + (ByteArray.size p : Int)) ≤ (ByteArray.size s : Int)) (
       (if (ByteArray.extract s (Int.toNat s47) (Int.toNat (s47 + (ByteArray.size p : Int)))) = p then
        some (.done (.done (true)))
       else
        ck (I64 (s47 + (1 : Int))) (
         some (.next (s47 + (1 : Int)))))))
    else
     some (.done (.next ()))))) (s0 := (0 : Int)) (s.size + 1 - p.size) (fun (_ : Unit) i => i) (fun _ => ()) (fun i _ => ∀ j : Nat, j < i → s.extract j (j + p.size) ≠ p) (fun r => r = true ∧ ∃ i : Nat, i + p.size ≤ s.size ∧ s.extract i (i + p.size) = p) () rfl (fun j hj => by omega) (fun i t hi ht => by
      have h1 : I64 ((i : Int) + (p.size : Int)) := by unfold I64; omega
      have e1 : Int.toNat ((i : Int) + (p.size : Int)) = i + p.size := by omega
      rw [ck_true h1, if_pos (by omega), ck_true h1, ck_true ⟨by omega, by omega, by omega⟩, e1, Int.toNat_natCast]
      by_cases he : s.extract i (i + p.size) = p
      · right
        rw [if_pos he]
        exact ⟨true, rfl, rfl, i, by omega, he⟩
      · left
        rw [if_neg he, ck_true (by unfold I64; omega)]
        refine ⟨(), rfl, fun j hj => ?_⟩
        by_cases hji : j = i
        · subst hji; exact he
        · exact ht j (by omega)) (fun t _ => by
      rw [ck_true (by unfold I64; omega), if_neg (by omega)]) (by omega)
  rcases key with ⟨t, ht, e⟩ | ⟨r, ⟨hr, hx⟩, e⟩
  · refine ⟨false, by rw [e]; rfl, ?_⟩
    constructor
    · intro h; cases h
    · rintro ⟨i, h1, h2⟩
      exact absurd h2 (ht i (by omega))
  · exact ⟨true, by rw [e, hr]; rfl, fun _ => hx, fun _ => rfl⟩
theorem has_not {N : Nat} {s : ByteArray} {c : UInt8} (hN : s.size + 1 < N) (hs : s.size ≤ 1000000) (h : c ∉ s.data.toList) : m_recyclinglaw54_has N s ⟨#[c]⟩ = some false := by
  obtain ⟨v, e, hv⟩ := has_iff (p := ⟨#[c]⟩) hN hs (by show (1 : Nat) ≤ 1000; decide)
  rw [e]
  cases v with
  | false => rfl
  | true =>
    obtain ⟨i, h1, h2⟩ := hv.1 rfl
    have h3 : (s.extract i (i + 1)).data.toList = [c] := by
      rw [show (i + 1) = i + ByteArray.size ⟨#[c]⟩ from rfl, h2]
    rw [extract_list] at h3
    have : c ∈ (s.data.toList.drop i).take (i + 1 - i) := by rw [h3]; exact List.mem_cons_self ..
    exact absurd (List.mem_of_mem_drop (List.mem_of_mem_take this)) h
theorem has_yes {N : Nat} {s p : ByteArray} {a b : List UInt8} (hN : s.size + 1 < N) (hs : s.size ≤ 1000000) (hp : p.size ≤ 1000) (h : s.data.toList = a ++ (p.data.toList ++ b)) : m_recyclinglaw54_has N s p = some true := by
  obtain ⟨v, e, hv⟩ := has_iff (p := p) hN hs hp
  have hsz : s.size = s.data.toList.length := (Array.length_toList).symm
  have hpz : p.size = p.data.toList.length := (Array.length_toList).symm
  rw [e, hv.2 ⟨a.length, by rw [hsz, hpz, h]; simp, bytes_eq (by
    rw [extract_list, h, List.drop_left, hpz]
    simp)⟩]
theorem begins {s p : ByteArray} {b : List UInt8} (h : s.data.toList = p.data.toList ++ b) : ByteArray.extract s 0 (Int.toNat (p.size : Int)) = p := bytes_eq (by
  have hpz : p.size = p.data.toList.length := (Array.length_toList).symm
  rw [extract_list, Int.toNat_natCast, h, hpz]
  simp)
/-! ### No line feed -/
theorem decDigits_no : ∀ (n u : Nat), u ≤ n → (10 : UInt8) ∉ Lib.decDigits u
  | n, u, hn => by
    rw [Lib.decDigits]
    split
    · rename_i h
      intro hm
      rw [List.mem_singleton] at hm
      have h2 : (10 : UInt8).toNat = (UInt8.ofNat (48 + u)).toNat := by rw [hm]
      rw [UInt8.toNat_ofNat'] at h2
      have h3 : (10 : UInt8).toNat = 10 := rfl
      omega
    · rename_i h
      intro hm
      rcases List.mem_append.1 hm with hm | hm
      · cases n with
        | zero => omega
        | succ n => exact decDigits_no n (u / 10) (by omega) hm
      · rw [List.mem_singleton] at hm
        have h2 : (10 : UInt8).toNat = (UInt8.ofNat (48 + u % 10)).toNat := by rw [hm]
        rw [UInt8.toNat_ofNat'] at h2
        have h3 : (10 : UInt8).toNat = 10 := rfl
        omega
theorem itoa_no (n : Int) : (10 : UInt8) ∉ (itoaS n).data.toList := by
  show (10 : UInt8) ∉ Lib.itoa n
  unfold Lib.itoa
  split
  · intro hm
    rcases List.mem_cons.1 hm with h | h
    · exact absurd h (by decide)
    · exact decDigits_no _ _ (Nat.le_refl _) h
  · exact decDigits_no _ _ (Nat.le_refl _)
theorem ident_no {s : ByteArray} (h : identP s) : (10 : UInt8) ∉ s.data.toList := by
  intro hm
  obtain ⟨i, hi, e⟩ := List.mem_iff_getElem.1 hm
  have hs : i < s.size := by
    have : s.data.toList.length = s.size := Array.length_toList
    omega
  have h1 := h.2.2 i hs
  have e2 : bget s (i : Int) = 10 := by
    unfold bget
    rw [Int.toNat_natCast]
    have h3 : i < s.data.size := hs
    rw [Array.getElem?_eq_getElem h3]
    have h4 : s.data[i] = 10 := by simpa using e
    rw [h4]
    rfl
  rw [e2] at h1
  exact absurd h1 (by decide)
theorem identB_no {s : ByteArray} (h : identB s = true) : (10 : UInt8) ∉ s.data.toList := by
  obtain ⟨v, e, hv⟩ := ident_iff (N := 40000) (by omega) s
  have h1 := (identB_eq s).1
  rw [e] at h1
  injection h1 with h1
  exact ident_no (hv.1 (h1.trans h))
theorem joinB_no {l : List IfV} (h : ∀ x ∈ l, (10 : UInt8) ∉ (wordOf x).data.toList) : (10 : UInt8) ∉ (joinB l).data.toList := by
  cases l with
  | nil => intro hm; cases hm
  | cons x l =>
    rw [joinB_cons]
    intro hm
    rcases List.mem_append.1 hm with hm | hm
    · exact h x (List.mem_cons_self ..) hm
    · have key : ∀ l : List IfV, (∀ x ∈ l, (10 : UInt8) ∉ (wordOf x).data.toList) → (10 : UInt8) ∉ Lib.joinTail [32] (l.map fun x => (wordOf x).data.toList) := fun l => by
        induction l with
        | nil => intro _ hm; cases hm
        | cons y l ih =>
          intro h hm
          rw [List.map_cons, joinTail_cons] at hm
          rcases List.mem_cons.1 hm with hm | hm
          · exact absurd hm (by decide)
          · rcases List.mem_append.1 hm with hm | hm
            · exact h y (List.mem_cons_self ..) hm
            · exact ih (fun z hz => h z (List.mem_cons_of_mem _ hz)) hm
      exact key l (fun z hz => h z (List.mem_cons_of_mem _ hz)) hm
theorem app_no {a b : ByteArray} (ha : (10 : UInt8) ∉ a.data.toList) (hb : (10 : UInt8) ∉ b.data.toList) : (10 : UInt8) ∉ (a ++ b).data.toList := by
  rw [bytes_app]
  intro hm
  rcases List.mem_append.1 hm with hm | hm
  · exact ha hm
  · exact hb hm
theorem lit_no {t : Nat} {l : List UInt8} (h : l.all (fun x => x != 10) = true) : (10 : UInt8) ∉ (wordOf (IfV.str t ⟨l.toArray⟩)).data.toList := fun hm => by
  have := List.all_eq_true.1 h 10 hm
  exact absurd this (by decide)
/-! ### What an item of a bill is explained by -/
/-- The line for an item: its words, the last two of which are a number with a colon and the amount. -/
structure Said (begin_ : List UInt8) (s : ByteArray) : Prop where
  small : s.size ≤ 30000
  pre : ∃ b, s.data.toList = begin_ ++ b ∧ 0 < b.length
  line : (10 : UInt8) ∉ s.data.toList
  ends : ∃ a b, s.data.toList = a ++ ([58, 32] ++ b)
theorem join_len' {l : List IfV} (h : ∀ x ∈ l, wordOk x) : (Lib.join (l.map fun x => (wordOf x).data.toList) [32]).length ≤ 1001 * l.length := by
  cases l with
  | nil => exact Nat.zero_le _
  | cons x l =>
    rw [List.map_cons, Lib.join_cons, List.length_append]
    have h1 := wordOf_len (h x (List.mem_cons_self ..))
    have h2 := joinTail_len (l := l.map fun x => (wordOf x).data.toList) fun y hy => by
      obtain ⟨z, hz, rfl⟩ := List.mem_map.1 hy
      exact wordOf_len (h z (List.mem_cons_of_mem _ hz))
    rw [List.length_map] at h2
    rw [List.length_cons]
    omega
theorem said_of {w : ByteArray} {l : List IfV} {n m : Int} {t1 t2 t3 : Nat} (hl : l.length ≤ 20) (ho : ∀ x ∈ IfV.str t1 w :: (l ++ [IfV.str t2 (itoaS n ++ (⟨#[58]⟩ : ByteArray)), IfV.int t3 m]), wordOk x) (hno : ∀ x ∈ IfV.str t1 w :: l, (10 : UInt8) ∉ (wordOf x).data.toList) :
    Said (w.data.toList ++ [32]) (joinB (IfV.str t1 w :: (l ++ [IfV.str t2 (itoaS n ++ (⟨#[58]⟩ : ByteArray)), IfV.int t3 m]))) := by
  have htail : ∀ (a b : List (List UInt8)), Lib.joinTail [32] (a ++ b) = Lib.joinTail [32] a ++ Lib.joinTail [32] b := fun a b => by
    unfold Lib.joinTail
    rw [List.map_append, List.flatten_append]
  have hne : ∀ l2 : List IfV, l2 ≠ [] → ∃ b, Lib.joinTail [32] (l2.map fun x => (wordOf x).data.toList) = 32 :: b := fun l2 h => by
    cases l2 with
    | nil => exact absurd rfl h
    | cons y l2 => exact ⟨_, by rw [List.map_cons, joinTail_cons]⟩
  have e1 := joinB_cons (IfV.str t1 w) (l ++ [IfV.str t2 (itoaS n ++ (⟨#[58]⟩ : ByteArray)), IfV.int t3 m])
  have e2 : Lib.joinTail [32] ([IfV.str t2 (itoaS n ++ (⟨#[58]⟩ : ByteArray)), IfV.int t3 m].map fun x => (wordOf x).data.toList) = 32 :: ((itoaS n).data.toList ++ ([58, 32] ++ (itoaS m).data.toList)) := by
    simp only [List.map_cons, List.map_nil, joinTail_cons, joinTail_nil, wordOf, bytes_app, List.append_nil, List.append_assoc, List.cons_append, List.nil_append]
  refine ⟨?_, ?_, ?_, ?_⟩
  · have := join_len' ho
    simp only [List.length_cons, List.length_append, List.length_nil] at this
    show (Lib.join _ [32]).toArray.size ≤ _
    rw [List.size_toArray]
    omega
  · rw [e1, List.map_append, htail, e2]
    cases l with
    | nil => exact ⟨(itoaS n).data.toList ++ ([58, 32] ++ (itoaS m).data.toList), by simp [wordOf, joinTail_nil], by simp; omega⟩
    | cons y l =>
      rw [List.map_cons, joinTail_cons]
      exact ⟨(wordOf y).data.toList ++ Lib.joinTail [32] (l.map fun x => (wordOf x).data.toList) ++ 32 :: ((itoaS n).data.toList ++ ([58, 32] ++ (itoaS m).data.toList)), by simp [wordOf], by simp; omega⟩
  · refine joinB_no fun x hx => ?_
    rcases List.mem_cons.1 hx with rfl | hx
    · exact hno _ (List.mem_cons_self ..)
    · rcases List.mem_append.1 hx with hx | hx
      · exact hno _ (List.mem_cons_of_mem _ hx)
      · simp only [List.mem_cons, List.not_mem_nil, or_false] at hx
        rcases hx with rfl | rfl
        · exact app_no (itoa_no n) (by decide)
        · exact itoa_no m
  · rw [e1, List.map_append, htail, e2]
    exact ⟨w.data.toList ++ (Lib.joinTail [32] (l.map fun x => (wordOf x).data.toList) ++ (32 :: (itoaS n).data.toList)), (itoaS m).data.toList, by simp [wordOf]⟩
def beginOf (k : Int) : ByteArray := if k = 3 then (⟨#[119, 101, 105, 103, 104, 116, 32, 111, 102, 32, 101, 109, 112, 116, 121, 105, 110, 103, 32]⟩ : ByteArray) else if k = 2 then (⟨#[101, 109, 112, 116, 121, 105, 110, 103, 32]⟩ : ByteArray) else (⟨#[98, 97, 115, 101, 32]⟩ : ByteArray)
theorem bilSpec_id {a : ApiAccount} (h : bilSpec a = 0) : ∀ x ∈ a.Containers, x.ID.size ≤ 32 ∧ (10 : UInt8) ∉ x.ID.data.toList := fun x hx => by
  unfold bilSpec at h
  split at h
  · exact absurd h ‹_›
  · rename_i h1
    have hc := Decidable.not_not.1 h1
    unfold conSpec at hc
    split at hc
    · omega
    · split at hc
      · rename_i e he
        unfold fstBad at he
        obtain ⟨y, _, hy⟩ := List.exists_of_findSome?_eq_some he
        split at hy
        · cases hy
        · injection hy with hy
          rw [← hy] at hc
          exact absurd hc ‹_›
      · rename_i he
        have h0 := fstBad_none he x hx
        have h4 := (identB_eq x.ID).2.2
        unfold conFault at h0
        cases hi : identB x.ID with
        | true => exact ⟨h4 hi, identB_no hi⟩
        | false =>
          rw [hi] at h0
          simp at h0
/-- What is known of an item that is made. -/
structure Made (a : ApiAccount) (x : ApiItem) : Prop where
  i1 : I64 x.Ref
  i2 : I64 x.Count
  i3 : I64 x.Price
  i4 : I64 x.Amount
  kind : (x.Kind = 1 ∧ 0 ≤ x.Ref ∧ x.Ref < a.Tariffs.length) ∨ ((x.Kind = 2 ∨ x.Kind = 3) ∧ emK a.Emptyings x.Ref < a.Emptyings.length)
theorem explain_made {a : ApiAccount} (ha : bilSpec a = 0) {b : ApiBill} {k : Nat} (hk : k < b.Items.length) (hx : Made a b.Items[k]) : ∃ s, m_bill_Explain 40000 a b (k : Int) = some (s, 0) ∧ Said (beginOf b.Items[k].Kind).data.toList s := by
  unfold m_bill_Explain
  rw [bilProg_eq, Option.bind_some, if_neg (fun h => h ha), if_neg (by simp; omega), ck_true ⟨by omega, by omega⟩, ix_nat hk]
  obtain ⟨w2, w3, w4, w5, hkind⟩ := hx
  generalize b.Items[k] = x at *
  have hl : a.Emptyings.length ≤ 1000 := by have := (emCheck_zero (bilSpec_zero ha).2.1).1; omega
  have s2 := itoaS_size w2
  have s4 := itoaS_size w4
  rcases hkind with ⟨h1, hr1, hr2⟩ | ⟨h23, hem⟩
  · rw [if_pos h1, if_neg (by simp; omega), colon_eq w2, Option.bind_some]
    have ho : ∀ y ∈ IfV.str 9 (⟨#[98, 97, 115, 101]⟩ : ByteArray) :: ([IfV.int 3 x.Count, IfV.str 9 (⟨#[100, 97, 121, 115, 32, 97, 116]⟩ : ByteArray), IfV.int 3 x.Price, IfV.str 9 (⟨#[98, 121, 32, 116, 97, 114, 105, 102, 102]⟩ : ByteArray)] ++ [IfV.str 9 (itoaS x.Ref ++ (⟨#[58]⟩ : ByteArray)), IfV.int 3 x.Amount]), wordOk y := by
      intro y hy
      simp only [List.cons_append, List.nil_append, List.mem_cons, List.not_mem_nil, or_false] at hy
      rcases hy with rfl | rfl | rfl | rfl | rfl | rfl | rfl <;> simp [wordOk, w3, w4, w5, lit_size] <;> omega
    have hw := words_eq (N := 40000) (by omega) (by simp) ho
    simp only [List.cons_append, List.nil_append] at hw
    rw [hw, Option.bind_some]
    refine ⟨_, rfl, ?_⟩
    have hb : (beginOf x.Kind).data.toList = (⟨#[98, 97, 115, 101]⟩ : ByteArray).data.toList ++ [32] := by rw [h1]; rfl
    rw [hb]
    refine said_of (by simp) ho ?_
    intro y hy
    simp only [List.mem_cons, List.not_mem_nil, or_false] at hy
    rcases hy with rfl | rfl | rfl | rfl | rfl
    · exact lit_no (by decide)
    · exact itoa_no _
    · exact lit_no (by decide)
    · exact itoa_no _
    · exact lit_no (by decide)
  · have hn1 : ¬ x.Kind = 1 := by omega
    have e1 : (if x.Kind = 2 then some (Step.next (decide (x.Kind = 2))) else some (Step.next (decide (x.Kind = 3))) : Option (Step Bool (ByteArray × Int))) = some (.next true) := by
      rcases h23 with h | h
      · rw [if_pos h, decide_eq_true h]
      · rw [if_neg (by omega), decide_eq_true h]
    have hck : (0 : Int) ≤ (emK a.Emptyings x.Ref : Int) ∧ (emK a.Emptyings x.Ref : Int) < (a.Emptyings.length : Int) := by omega
    rw [if_neg hn1, e1, andThen_next, if_pos rfl]
    unfold m_bill_explainEmptying
    rw [idxProg (by omega) hl, Option.bind_some, if_pos hem, if_neg (show ¬ (emK a.Emptyings x.Ref : Int) < 0 from by omega), ck_true hck, ix_nat hem]
    have hcon := (bilSpec_con ha).2 _ (List.getElem_mem hem)
    have hid := bilSpec_id ha
    generalize a.Emptyings[emK a.Emptyings x.Ref] = y at *
    have hy := emFault_zero hcon
    have i1 : I64 y.Mass.Lo := by unfold I64; omega
    have i2 : I64 y.Mass.Hi := by unfold I64; omega
    have i3 : I64 y.At := by unfold I64; omega
    have i4 : I64 y.Vehicle := by unfold I64; omega
    have hq : Int.tdiv y.At 86400 = y.At / 86400 := Int.tdiv_eq_ediv_of_nonneg (by omega)
    have hr : Int.tmod y.At 86400 = y.At % 86400 := Int.tmod_eq_emod_of_nonneg (by omega)
    have i5 : I64 (Int.tdiv y.At 86400) := by rw [hq]; unfold I64; omega
    have i6 : I64 (Int.tmod y.At 86400) := by rw [hr]; unfold I64; omega
    have z4 := itoaS_size i4
    by_cases h3 : x.Kind = 3
    · rw [if_pos h3, colon_eq w4, Option.bind_some]
      have ho : ∀ z ∈ IfV.str 9 (⟨#[119, 101, 105, 103, 104, 116, 32, 111, 102, 32, 101, 109, 112, 116, 121, 105, 110, 103]⟩ : ByteArray) :: ([IfV.int 3 x.Ref, IfV.str 9 (⟨#[102, 114, 111, 109]⟩ : ByteArray), IfV.int 3 y.Mass.Lo, IfV.str 9 (⟨#[116, 111]⟩ : ByteArray), IfV.int 3 y.Mass.Hi, IfV.str 9 (⟨#[103, 114, 97, 109, 115, 58]⟩ : ByteArray), IfV.int 3 x.Count, IfV.str 9 (⟨#[107, 103, 32, 97, 116]⟩ : ByteArray)] ++ [IfV.str 9 (itoaS x.Price ++ (⟨#[58]⟩ : ByteArray)), IfV.int 3 x.Amount]), wordOk z := by
        intro z hz
        simp only [List.cons_append, List.nil_append, List.mem_cons, List.not_mem_nil, or_false] at hz
        rcases hz with rfl | rfl | rfl | rfl | rfl | rfl | rfl | rfl | rfl | rfl | rfl <;> simp [wordOk, w2, w3, w5, i1, i2, lit_size] <;> omega
      have hw := words_eq (N := 40000) (by omega) (by simp) ho
      simp only [List.cons_append, List.nil_append] at hw
      rw [hw, Option.bind_some]
      refine ⟨_, rfl, ?_⟩
      have hb : (beginOf x.Kind).data.toList = (⟨#[119, 101, 105, 103, 104, 116, 32, 111, 102, 32, 101, 109, 112, 116, 121, 105, 110, 103]⟩ : ByteArray).data.toList ++ [32] := by rw [h3]; rfl
      rw [hb]
      refine said_of (by simp) ho ?_
      intro z hz
      simp only [List.mem_cons, List.not_mem_nil, or_false] at hz
      rcases hz with rfl | rfl | rfl | rfl | rfl | rfl | rfl | rfl | rfl <;> first | exact itoa_no _ | exact lit_no (by decide)
    · have h2 : x.Kind = 2 := by omega
      have hc : (0 : Int) ≤ y.Container ∧ y.Container < (a.Containers.length : Int) := by omega
      obtain ⟨j, hj⟩ := Int.eq_ofNat_of_zero_le hc.1
      have hj' : j < a.Containers.length := by omega
      have hcs := hid _ (List.getElem_mem hj')
      rw [← ix_nat hj', ← hj] at hcs
      rw [if_neg h3, ck_true hc, ck_true i3, ck_true i3, colon_eq i4, Option.bind_some]
      have ho : ∀ z ∈ IfV.str 9 (⟨#[101, 109, 112, 116, 121, 105, 110, 103]⟩ : ByteArray) :: ([IfV.int 3 x.Ref, IfV.str 9 (⟨#[111, 102, 32, 99, 111, 110, 116, 97, 105, 110, 101, 114]⟩ : ByteArray), IfV.str 9 (ix a.Containers y.Container).ID, IfV.str 9 (⟨#[111, 110, 32, 100, 97, 121]⟩ : ByteArray), IfV.int 3 (Int.tdiv y.At 86400), IfV.str 9 (⟨#[97, 116, 32, 115, 101, 99, 111, 110, 100]⟩ : ByteArray), IfV.int 3 (Int.tmod y.At 86400), IfV.str 9 (⟨#[98, 121, 32, 118, 101, 104, 105, 99, 108, 101]⟩ : ByteArray)] ++ [IfV.str 9 (itoaS y.Vehicle ++ (⟨#[58]⟩ : ByteArray)), IfV.int 3 x.Amount]), wordOk z := by
        intro z hz
        simp only [List.cons_append, List.nil_append, List.mem_cons, List.not_mem_nil, or_false] at hz
        rcases hz with rfl | rfl | rfl | rfl | rfl | rfl | rfl | rfl | rfl | rfl | rfl <;> simp [wordOk, w2, w5, i5, i6, lit_size] <;> omega
      have hw := words_eq (N := 40000) (by omega) (by simp) ho
      simp only [List.cons_append, List.nil_append] at hw
      rw [hw, Option.bind_some]
      refine ⟨_, rfl, ?_⟩
      have hb : (beginOf x.Kind).data.toList = (⟨#[101, 109, 112, 116, 121, 105, 110, 103]⟩ : ByteArray).data.toList ++ [32] := by rw [h2]; rfl
      rw [hb]
      refine said_of (by simp) ho ?_
      intro z hz
      simp only [List.mem_cons, List.not_mem_nil, or_false] at hz
      rcases hz with rfl | rfl | rfl | rfl | rfl | rfl | rfl | rfl | rfl <;> first | exact itoa_no _ | exact lit_no (by decide) | exact hcs.2
/-! ### Items that are made -/
theorem emK_lt {l : List ApiEmptying} {x : ApiEmptying} (hx : x ∈ l) : emK l x.ID < l.length := List.findIdx_lt_length_of_exists ⟨x, hx, by simp⟩
theorem mkItems_made {a : ApiAccount} (ha : bilSpec a = 0) {w : ApiWindow} (hb : (baseSpec a.Tariffs w).2 = 0) (h : Int) : ∀ x ∈ mkItems a h w, Made a x := fun x hx => by
  obtain ⟨_, hw, _⟩ := baseSpec_zero hb
  obtain ⟨_, _, ht, _⟩ := bilSpec_zero ha
  obtain ⟨_, h8, _⟩ := tarSpec_zero ht
  unfold mkItems at hx
  rcases List.mem_append.1 hx with hx | hx
  · obtain ⟨i, hi, hx⟩ := List.mem_flatMap.1 hx
    have hi' := List.mem_range.1 hi
    unfold baseI at hx
    split at hx
    · rename_i hp
      rw [List.mem_singleton] at hx
      subst hx
      have h4 := tar_ix ht hi'
      have h5 := baseN_le (l := a.Tariffs) hw i
      have h6 := mul_boxB (Int.le_of_lt hp) h5 h4.2.1 h4.2.2
      refine ⟨?_, ?_, ?_, ?_, .inl ⟨rfl, ?_, ?_⟩⟩ <;> simp only <;> first | omega | (unfold I64; omega)
    · cases hx
  · obtain ⟨i, hi, hx⟩ := List.mem_flatMap.1 hx
    obtain ⟨k, e, hk⟩ := at_ok ha hb hi
    have hii := (mkIdx_ok ha hw hi).1
    have h1 := tarSpec_all ht _ (List.getElem_mem hk)
    rw [← ix_nat hk] at h1
    have h2 := usB_iff h1.2.1
    have h3 := emFault_zero (em_ok ha hii)
    obtain ⟨j, rfl⟩ := Int.eq_ofNat_of_zero_le hii.1
    have hj : j < a.Emptyings.length := by omega
    have h9 : emK a.Emptyings (ix a.Emptyings (j : Int)).ID < a.Emptyings.length := by
      rw [ix_nat hj]
      exact emK_lt (List.getElem_mem hj)
    unfold emIt itSpec at hx
    rw [e] at hx
    simp only at hx
    split at hx
    · cases hx
    · rename_i hbad
      have hz : (wgtSpec (ix a.Tariffs (k : Int)) (ix a.Emptyings (j : Int)).Mass).2 = 0 := by
        refine Decidable.byContradiction fun h => hbad (.inl h)
      obtain ⟨h5, h6, h7⟩ := wgtSpec_ok hz
      have h8 := mul_boxT h5.1 h5.2 h7.1 h7.2
      split at hx
      · rcases List.mem_cons.1 hx with rfl | hx
        · refine ⟨?_, ?_, ?_, ?_, .inr ⟨.inl rfl, h9⟩⟩ <;> simp only <;> unfold I64 <;> omega
        · rw [List.mem_singleton] at hx
          subst hx
          refine ⟨?_, ?_, ?_, ?_, .inr ⟨.inr rfl, h9⟩⟩ <;> simp only <;> unfold I64 <;> omega
      · rw [List.mem_singleton] at hx
        subst hx
        refine ⟨?_, ?_, ?_, ?_, .inr ⟨.inl rfl, h9⟩⟩ <;> simp only <;> unfold I64 <;> omega
/-! ### The law -/
theorem explain_end (a : ApiAccount) (b : ApiBill) : ∃ s e, m_bill_Explain 40000 a b (b.Items.length : Int) = some (s, e) ∧ e ≠ 0 := by
  unfold m_bill_Explain
  rw [bilProg_eq, Option.bind_some]
  by_cases h : bilSpec a ≠ 0
  · rw [if_pos h]; exact ⟨_, _, rfl, h⟩
  · rw [if_neg h, if_pos (by simp)]; exact ⟨_, _, rfl, by decide⟩
theorem words_tail {s g : ByteArray} {k i n : Int} (hS : Said g.data.toList s) (hk : 1 ≤ k ∧ k ≤ 3) (hi : 0 ≤ i ∧ i < n) (hn : n ≤ 1000) {β : Type} :
    (ck ((!(decide ((0 : Int) ≠ 0))) = true → (0 : Int) ≤ i ∧ i < n) (
        ck ((!((decide ((0 : Int) ≠ 0)) || (decide (k < 1)))) = true → (0 : Int) ≤ i ∧ i < n) (
         ck ((!((((decide ((0 : Int) ≠ 0)) || (decide (k < 1))) || (decide (3 < k))) || (decide ((ByteArray.size s : Int) ≤ (ByteArray.size g : Int))))) = true → (0 : Int) ≤ (ByteArray.size g : Int) ∧ (ByteArray.size g : Int) ≤ (ByteArray.size s : Int)) (
          callIf ((!(((((decide ((0 : Int) ≠ 0)) || (decide (k < 1))) || (decide (3 < k))) || (decide ((ByteArray.size s : Int) ≤ (ByteArray.size g : Int)))) || (decide ((ByteArray.extract s 0 (Int.toNat (ByteArray.size g : Int))) ≠ g)))) = true) (m_recyclinglaw54_has 40000 s (⟨#[10]⟩ : ByteArray)) fun r203 => callIf ((!((((((decide ((0 : Int) ≠ 0)) || (decide (k < 1))) || (decide (3 < k))) || (decide ((ByteArray.size s : Int) ≤ (ByteArray.size g : Int)))) || (decide ((ByteArray.extract s 0 (Int.toNat (ByteArray.size g : Int))) ≠ g))) || r203)) = true) (m_recyclinglaw54_has 40000 s (⟨#[58, 32]⟩ : ByteArray)) fun r205 => (if (((((((decide ((0 : Int) ≠ 0)) || (decide (k < 1))) || (decide (3 < k))) || (decide ((ByteArray.size s : Int) ≤ (ByteArray.size g : Int)))) || (decide ((ByteArray.extract s 0 (Int.toNat (ByteArray.size g : Int))) ≠ g))) || r203) || (!r205)) = true then
           some (.done (.done (false)))
          else
           ck (I64 (i + (1 : Int))) (
            some (.next (i + (1 : Int)))))))) : Option (Step Int (Step β Bool))) = some (.next (i + 1)) := by
  obtain ⟨b, hb, hb0⟩ := hS.pre
  obtain ⟨u, v, huv⟩ := hS.ends
  have hsz : s.size = s.data.toList.length := (Array.length_toList).symm
  have hgz : g.size = g.data.toList.length := (Array.length_toList).symm
  have hlt : g.size < s.size := by rw [hsz, hgz, hb, List.length_append]; omega
  have d1 : decide ((0 : Int) ≠ 0) = false := rfl
  have d2 : decide (k < 1) = false := decide_eq_false (by omega)
  have d3 : decide (3 < k) = false := decide_eq_false (by omega)
  have d4 : decide ((ByteArray.size s : Int) ≤ (ByteArray.size g : Int)) = false := decide_eq_false (by omega)
  have d5 : decide ((ByteArray.extract s 0 (Int.toNat (ByteArray.size g : Int))) ≠ g) = false := decide_eq_false (fun h => h (begins hb))
  have h1 := has_not (N := 40000) (by have := hS.small; omega) (by have := hS.small; omega) hS.line
  have h2 := has_yes (N := 40000) (s := s) (p := (⟨#[58, 32]⟩ : ByteArray)) (a := u) (b := v) (by have := hS.small; omega) (by have := hS.small; omega) (by decide) huv
  rw [ck_true (fun _ => hi), ck_true (fun _ => hi), ck_true (fun _ => ⟨by omega, by omega⟩), d1, d2, d3, d4, d5, h1, h2]
  exact ck_true (by unfold I64; omega)
theorem lawBWords_eq (a : ApiAccount) (x : Recyclinglaw54Ask) : m_recyclinglaw54_BillWords 40000 a x = some true := by
  unfold m_recyclinglaw54_BillWords
  obtain ⟨g, eg, _⟩ := great_ex a
  rw [eg, Option.bind_some, bilAwake_eq, make_eq]
  split
  · rfl
  · rw [Option.bind_some]
    obtain ⟨s9, e9, hE, he9⟩ := explain_end a (mkSpec a x.ID x.Household x.When).1
    by_cases hz : (mkSpec a x.ID x.Household x.When).2 = 0
    · obtain ⟨ha, hb, hml, hM⟩ := mkSpec_zero hz
      have hmade := mkItems_made ha hb x.Household
      rw [hM] at hE ⊢
      simp only at hE ⊢
      generalize mkItems a x.Household x.When = m at *
      refine then_ex (res := some true) m.length (fun (_ : Unit) i => i) (fun _ => ()) (fun _ _ => True) () rfl trivial (by omega) (fun i t hi _ => ⟨(), ?_, trivial⟩) (fun t _ => ?_) (fun t _ => ?_)
      · have h1 : ((i : Int)) < (m.length : Int) := by omega
        have h3 : (0 : Int) ≤ (i : Int) ∧ (i : Int) < (m.length : Int) := ⟨by omega, h1⟩
        have hx := hmade _ (List.getElem_mem hi)
        obtain ⟨s, eS, hS⟩ := explain_made (b := ⟨x.ID, x.Household, x.When, m, sumA m⟩) ha hi hx
        rw [decide_eq_true h1, if_pos (by simp), eS, Option.bind_some, ix_nat hi]
        simp only at hS
        generalize m[i] = y at *
        have hk : 1 ≤ y.Kind ∧ y.Kind ≤ 3 := by rcases hx.kind with h | ⟨h | h, _⟩ <;> omega
        by_cases h2 : y.Kind = 2
        · rw [if_pos h2, ck_true h3, andThen_next, if_neg (by omega), ck_true h3, andThen_next]
          have e1 : beginOf y.Kind = (⟨#[101, 109, 112, 116, 121, 105, 110, 103, 32]⟩ : ByteArray) := by rw [h2]; rfl
          rw [e1] at hS
          exact words_tail hS hk h3 (by omega)
        · rw [if_neg h2, ck_true h3, andThen_next]
          by_cases h4 : y.Kind = 3
          · rw [if_pos h4, ck_true h3, andThen_next]
            have e1 : beginOf y.Kind = (⟨#[119, 101, 105, 103, 104, 116, 32, 111, 102, 32, 101, 109, 112, 116, 121, 105, 110, 103, 32]⟩ : ByteArray) := by rw [h4]; rfl
            rw [e1] at hS
            exact words_tail hS hk h3 (by omega)
          · rw [if_neg h4, ck_true h3, andThen_next]
            have e1 : beginOf y.Kind = (⟨#[98, 97, 115, 101, 32]⟩ : ByteArray) := by unfold beginOf; rw [if_neg h4, if_neg h2]
            rw [e1] at hS
            exact words_tail hS hk h3 (by omega)
      · rw [if_neg (by simp)]
      · rw [hE, Option.bind_some, decide_eq_true he9]
        rfl
    · refine then_ex (res := some true) 0 (fun (_ : Unit) i => i) (fun _ => ()) (fun _ _ => True) () rfl trivial (by omega) (fun i t hi _ => absurd hi (Nat.not_lt_zero _)) (fun t _ => ?_) (fun t _ => ?_)
      · rw [decide_eq_false hz, Bool.and_false, if_neg (by decide)]
      · rw [hE, Option.bind_some, decide_eq_true he9]
        rfl
end Go.Proofs.YtpbgfdmkebnjgaaGreatDoor
