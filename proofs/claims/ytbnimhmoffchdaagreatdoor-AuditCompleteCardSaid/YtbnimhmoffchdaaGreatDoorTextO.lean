/- The walks of audit.Text and recyclingref59.Text: the same line for the same finding. -/
import Derived.Test.YtbnimhmoffchdaaGreatDoorSmO
import Derived.Test.YtbnimhmoffchdaaGreatDoorWShelf
import Derived.Shelf.SlSortCmp.QuietGrown
import Derived.Lib.ItoaLen
import Derived.Lib.AppendIntMem
namespace Go.Proofs.YtbnimhmoffchdaaGreatDoor
open Go.RowKit Go.Sort

theorem mixed : Tryz.prog.follows .mixedOrders = true := by kernel_rfl
/-- The library's table of powers of ten holds what its initialiser lays. -/
def TabO (w : World) : Prop := Lib.TabIs Tryz.prog w "internal/strconv.uint64pow10" .u64 Lib.pow10Tab
theorem TabO.below {w w' : World} (h : TabO w) (hb : Below w.heap.size w w') : TabO w' := Lib.tabBelow_of_tabIs h w' hb
theorem below_grow {B : Nat} {a w : World} (h : Below B a w) (hB : B ≤ w.heap.size) (os : Array Obj) : Below B a (grow w os) :=
 h.trans ⟨rfl, rfl, rfl, by simp, fun k hk => heap_grow_old w os (by omega)⟩
/-- The numeral as the library writes it. -/
def numB (n : Int) : ByteArray := ⟨(Lib.itoa n).toArray⟩
theorem numB_size (n : Int) (h : I64 n) : (numB n).size ≤ 100 := by
 have := Lib.itoa_length_le n h.1 h.2
 show (Lib.itoa n).toArray.size ≤ 100
 simp; omega
def textV (kd : Int) (A B : ByteArray) : ByteArray × Int :=
 if kd = 1 then ((((⟨#[116, 114, 97, 110, 115, 102, 101, 114, 32]⟩ : ByteArray) ++ A) ++ (⟨#[32, 105, 115, 32, 105, 110, 118, 97, 108, 105, 100]⟩ : ByteArray)), 0) else
 if kd = 2 then (((((⟨#[115, 116, 111, 99, 107, 32, 111, 102, 32, 110, 111, 100, 101, 32]⟩ : ByteArray) ++ A) ++ (⟨#[32, 105, 115, 32, 110, 101, 103, 97, 116, 105, 118, 101, 32, 97, 102, 116, 101, 114, 32, 116, 114, 97, 110, 115, 102, 101, 114, 32]⟩ : ByteArray)) ++ B), 0) else
 if kd = 3 then ((⟨#[115, 116, 111, 99, 107, 32, 111, 102, 32, 116, 104, 101, 32, 112, 108, 97, 110, 116, 32, 100, 111, 101, 115, 32, 110, 111, 116, 32, 109, 97, 116, 99, 104]⟩ : ByteArray), 0) else
 if kd = 4 then ((⟨#[115, 116, 111, 99, 107, 32, 111, 102, 32, 98, 97, 108, 101, 115, 32, 100, 111, 101, 115, 32, 110, 111, 116, 32, 109, 97, 116, 99, 104]⟩ : ByteArray), 0) else
 if kd = 5 then ((((⟨#[112, 97, 121, 111, 117, 116, 32]⟩ : ByteArray) ++ A) ++ (⟨#[32, 105, 115, 32, 102, 111, 114, 32, 97, 32, 99, 111, 110, 116, 97, 105, 110, 101, 114, 32, 116, 104, 97, 116, 32, 119, 97, 115, 32, 110, 111, 116, 32, 115, 111, 108, 100]⟩ : ByteArray)), 0) else
 if kd = 6 then ((((⟨#[112, 97, 121, 111, 117, 116, 32]⟩ : ByteArray) ++ A) ++ (⟨#[32, 104, 97, 115, 32, 97, 32, 119, 114, 111, 110, 103, 32, 97, 109, 111, 117, 110, 116]⟩ : ByteArray)), 0) else
 if kd = 7 then (((((⟨#[112, 97, 121, 111, 117, 116, 32]⟩ : ByteArray) ++ A) ++ (⟨#[32, 114, 101, 112, 101, 97, 116, 115, 32, 112, 97, 121, 111, 117, 116, 32]⟩ : ByteArray)) ++ B), 0) else
 if kd = 8 then ((((⟨#[112, 97, 121, 111, 117, 116, 32]⟩ : ByteArray) ++ A) ++ (⟨#[32, 104, 97, 115, 32, 110, 111, 32, 99, 108, 97, 105, 109]⟩ : ByteArray)), 0) else
 if kd = 9 then ((((⟨#[102, 101, 101, 115, 32, 111, 102, 32, 109, 97, 116, 101, 114, 105, 97, 108, 32]⟩ : ByteArray) ++ A) ++ (⟨#[32, 100, 111, 32, 110, 111, 116, 32, 109, 97, 116, 99, 104]⟩ : ByteArray)), 0) else
 if kd = 10 then ((((⟨#[98, 105, 108, 108, 32]⟩ : ByteArray) ++ A) ++ (⟨#[32, 104, 97, 115, 32, 97, 32, 119, 114, 111, 110, 103, 32, 116, 111, 116, 97, 108]⟩ : ByteArray)), 0) else
 if kd = 11 then (((((⟨#[98, 105, 108, 108, 32]⟩ : ByteArray) ++ A) ++ (⟨#[32, 104, 97, 115, 32, 97, 32, 119, 114, 111, 110, 103, 32, 105, 116, 101, 109, 32]⟩ : ByteArray)) ++ B), 0) else
 if kd = 12 then (((((⟨#[98, 105, 108, 108, 32]⟩ : ByteArray) ++ A) ++ (⟨#[32, 108, 97, 99, 107, 115, 32, 101, 109, 112, 116, 121, 105, 110, 103, 32]⟩ : ByteArray)) ++ B), 0) else
 if kd = 13 then (((((⟨#[98, 105, 108, 108, 32]⟩ : ByteArray) ++ A) ++ (⟨#[32, 99, 104, 97, 114, 103, 101, 115, 32, 101, 109, 112, 116, 121, 105, 110, 103, 32]⟩ : ByteArray)) ++ B), 0) else
 if kd = 14 then (((((⟨#[98, 105, 108, 108, 32]⟩ : ByteArray) ++ A) ++ (⟨#[32, 111, 118, 101, 114, 108, 97, 112, 115, 32, 98, 105, 108, 108, 32]⟩ : ByteArray)) ++ B), 0) else
 if kd = 15 then ((((⟨#[112, 111, 115, 116, 105, 110, 103, 32]⟩ : ByteArray) ++ A) ++ (⟨#[32, 105, 115, 32, 105, 110, 118, 97, 108, 105, 100]⟩ : ByteArray)), 0) else
 if kd = 16 then (((((⟨#[112, 111, 115, 116, 105, 110, 103, 32]⟩ : ByteArray) ++ A) ++ (⟨#[32, 114, 101, 112, 101, 97, 116, 115, 32, 112, 111, 115, 116, 105, 110, 103, 32]⟩ : ByteArray)) ++ B), 0) else
 (⟨#[]⟩, 21)

set_option maxRecDepth 100000 in
set_option maxHeartbeats 8000000 in
theorem text_any (kd a b : Int) (w : World) (ha : I64 a) (hb : I64 b) (ht : TabO w) :
  Calls Tryz.prog 16 #[.agg #[.int .i64 kd, .int .i64 a, .int .i64 b]] w fun e w' => e = .returned (.tuple #[.string (textV kd (numB a) (numB b)).1, .int .i64 (textV kd (numB a) (numB b)).2]) ∧ Below w.heap.size w w' := by
 have hmx := mixed
 have HB : Hid (∀ n os, Below w.heap.size w (grow ((w.alloc (.cells #[.int .i64 kd, .int .i64 a, .int .i64 b] 64)).drewN n) os)) := fun n os => below_grow (below_drewN ((Below.refl _ _).alloc (Nat.le_refl _) _) n) (by show w.heap.size ≤ (w.alloc _).heap.size; simp) os
 have HT : Hid (∀ n os, Lib.TabIs Tryz.prog (grow ((w.alloc (.cells #[.int .i64 kd, .int .i64 a, .int .i64 b] 64)).drewN n) os) "internal/strconv.uint64pow10" .u64 Lib.pow10Tab) := fun n os => ht.below (HB.out n os)
 have c0 : ∀ n os, (grow ((w.alloc (.cells #[.int .i64 kd, .int .i64 a, .int .i64 b] 64)).drewN n) os).cell? ⟨w.heap.size, 0, none⟩ = some (.int .i64 kd) := fun n os => cell_grown (by simp) ((Blk.new w _ [.int .i64 kd, .int .i64 a, .int .i64 b]).at_ 0 rfl) n os
 have c1 : ∀ n os, (grow ((w.alloc (.cells #[.int .i64 kd, .int .i64 a, .int .i64 b] 64)).drewN n) os).cell? ⟨w.heap.size, 1, none⟩ = some (.int .i64 a) := fun n os => cell_grown (by simp) ((Blk.new w _ [.int .i64 kd, .int .i64 a, .int .i64 b]).at_ 1 rfl) n os
 have c2 : ∀ n os, (grow ((w.alloc (.cells #[.int .i64 kd, .int .i64 a, .int .i64 b] 64)).drewN n) os).cell? ⟨w.heap.size, 2, none⟩ = some (.int .i64 b) := fun n os => cell_grown (by simp) ((Blk.new w _ [.int .i64 kd, .int .i64 a, .int .i64 b]).at_ 2 rfl) n os
 go_enter Tryz.func16, Tryz.ntmps16
 go_wp2_with fail
 go_quiet_grown ((go_at_call 44; exact Calls.grown_of (Tryz.strconv_Itoa _ (by first | exact ha.1 | exact hb.1) (by first | exact ha.2 | exact hb.2) _ (HT.out _ _))))
 have hsa := numB_size a ha
 have hsb := numB_size b hb
 change ByteArray.size (⟨(Lib.itoa a).toArray⟩ : ByteArray) ≤ 100 at hsa
 change ByteArray.size (⟨(Lib.itoa b).toArray⟩ : ByteArray) ≤ 100 at hsb
 generalize hA : (⟨(Lib.itoa a).toArray⟩ : ByteArray) = A at hsa ⊢
 generalize hB : (⟨(Lib.itoa b).toArray⟩ : ByteArray) = B at hsb ⊢
 have HA : Hid (numB a = A) := hA
 have HBB : Hid (numB b = B) := hB
 clear HT hA hB
 by_cases h1 : kd = 1
 ·subst h1
  go_wp2_with fail
  go_ret2
  rw [HA.out, HBB.out]
  exact ⟨rfl, HB.out _ _⟩
 ·skip
  by_cases h2 : kd = 2
  ·subst h2
   clear h1
   go_wp2_with fail
   go_ret2
   rw [HA.out, HBB.out]
   exact ⟨rfl, HB.out _ _⟩
  ·skip
   by_cases h3 : kd = 3
   ·subst h3
    clear h1 h2
    go_wp2_with fail
    go_ret2
    rw [HA.out, HBB.out]
    exact ⟨rfl, HB.out _ _⟩
   ·skip
    by_cases h4 : kd = 4
    ·subst h4
     clear h1 h2 h3
     go_wp2_with fail
     go_ret2
     rw [HA.out, HBB.out]
     exact ⟨rfl, HB.out _ _⟩
    ·skip
     by_cases h5 : kd = 5
     ·subst h5
      clear h1 h2 h3 h4
      go_wp2_with fail
      go_ret2
      rw [HA.out, HBB.out]
      exact ⟨rfl, HB.out _ _⟩
     ·skip
      by_cases h6 : kd = 6
      ·subst h6
       clear h1 h2 h3 h4 h5
       go_wp2_with fail
       go_ret2
       rw [HA.out, HBB.out]
       exact ⟨rfl, HB.out _ _⟩
      ·skip
       by_cases h7 : kd = 7
       ·subst h7
        clear h1 h2 h3 h4 h5 h6
        go_wp2_with fail
        go_ret2
        rw [HA.out, HBB.out]
        exact ⟨rfl, HB.out _ _⟩
       ·skip
        by_cases h8 : kd = 8
        ·subst h8
         clear h1 h2 h3 h4 h5 h6 h7
         go_wp2_with fail
         go_ret2
         rw [HA.out, HBB.out]
         exact ⟨rfl, HB.out _ _⟩
        ·skip
         by_cases h9 : kd = 9
         ·subst h9
          clear h1 h2 h3 h4 h5 h6 h7 h8
          go_wp2_with fail
          go_ret2
          rw [HA.out, HBB.out]
          exact ⟨rfl, HB.out _ _⟩
         ·skip
          by_cases h10 : kd = 10
          ·subst h10
           clear h1 h2 h3 h4 h5 h6 h7 h8 h9
           go_wp2_with fail
           go_ret2
           rw [HA.out, HBB.out]
           exact ⟨rfl, HB.out _ _⟩
          ·skip
           by_cases h11 : kd = 11
           ·subst h11
            clear h1 h2 h3 h4 h5 h6 h7 h8 h9 h10
            go_wp2_with fail
            go_ret2
            rw [HA.out, HBB.out]
            exact ⟨rfl, HB.out _ _⟩
           ·skip
            by_cases h12 : kd = 12
            ·subst h12
             clear h1 h2 h3 h4 h5 h6 h7 h8 h9 h10 h11
             go_wp2_with fail
             go_ret2
             rw [HA.out, HBB.out]
             exact ⟨rfl, HB.out _ _⟩
            ·skip
             by_cases h13 : kd = 13
             ·subst h13
              clear h1 h2 h3 h4 h5 h6 h7 h8 h9 h10 h11 h12
              go_wp2_with fail
              go_ret2
              rw [HA.out, HBB.out]
              exact ⟨rfl, HB.out _ _⟩
             ·skip
              by_cases h14 : kd = 14
              ·subst h14
               clear h1 h2 h3 h4 h5 h6 h7 h8 h9 h10 h11 h12 h13
               go_wp2_with fail
               go_ret2
               rw [HA.out, HBB.out]
               exact ⟨rfl, HB.out _ _⟩
              ·skip
               by_cases h15 : kd = 15
               ·subst h15
                clear h1 h2 h3 h4 h5 h6 h7 h8 h9 h10 h11 h12 h13 h14
                go_wp2_with fail
                go_ret2
                rw [HA.out, HBB.out]
                exact ⟨rfl, HB.out _ _⟩
               ·skip
                by_cases h16 : kd = 16
                ·subst h16
                 clear h1 h2 h3 h4 h5 h6 h7 h8 h9 h10 h11 h12 h13 h14 h15
                 go_wp2_with fail
                 go_ret2
                 rw [HA.out, HBB.out]
                 exact ⟨rfl, HB.out _ _⟩
                ·skip
                 have b1 : (kd == 1) = false := by simpa using h1
                 have b2 : (kd == 2) = false := by simpa using h2
                 have b3 : (kd == 3) = false := by simpa using h3
                 have b4 : (kd == 4) = false := by simpa using h4
                 have b5 : (kd == 5) = false := by simpa using h5
                 have b6 : (kd == 6) = false := by simpa using h6
                 have b7 : (kd == 7) = false := by simpa using h7
                 have b8 : (kd == 8) = false := by simpa using h8
                 have b9 : (kd == 9) = false := by simpa using h9
                 have b10 : (kd == 10) = false := by simpa using h10
                 have b11 : (kd == 11) = false := by simpa using h11
                 have b12 : (kd == 12) = false := by simpa using h12
                 have b13 : (kd == 13) = false := by simpa using h13
                 have b14 : (kd == 14) = false := by simpa using h14
                 have b15 : (kd == 15) = false := by simpa using h15
                 have b16 : (kd == 16) = false := by simpa using h16
                 have HF : Hid (textV kd A B = (⟨#[]⟩, 21)) := by
                  unfold Hid textV
                  rw [if_neg h1, if_neg h2, if_neg h3, if_neg h4, if_neg h5, if_neg h6, if_neg h7, if_neg h8, if_neg h9, if_neg h10, if_neg h11, if_neg h12, if_neg h13, if_neg h14, if_neg h15, if_neg h16]
                 clear h1 h2 h3 h4 h5 h6 h7 h8 h9 h10 h11 h12 h13 h14 h15 h16
                 go_wp2_with fail
                 go_ret2
                 rw [HA.out, HBB.out, HF.out]
                 exact ⟨rfl, HB.out _ _⟩


end Go.Proofs.YtbnimhmoffchdaaGreatDoor
