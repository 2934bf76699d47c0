/- The walk of recyclinglaw59.AuditText. -/
import Derived.Test.YtahnplemladjeaaDoorExample
namespace Go.Proofs.YtahnplemladjeaaDoor
open Go.RowKit Go.Sort

set_option maxRecDepth 100000 in
set_option maxHeartbeats 8000000 in
theorem lawText_any (kd a b : Int) (w : World) (ha : I64 a) (hb : I64 b) (ht : Tab w) :
    Calls Tryd.prog 4 #[.agg #[.int .i64 kd, .int .i64 a, .int .i64 b]] w fun e w' => e = .returned (.bool true) ∧ Below w.heap.size w w' := by
  have HT := Lib.hid ht; clear ht
  have HA := Lib.hid ha; clear ha
  have HBB := Lib.hid hb; clear hb
  have hb0 : ∀ o, Below w.heap.size w (w.alloc o) := fun o => (Below.refl _ w).alloc (Nat.le_refl _) _
  have HB0 := Lib.hid hb0; clear hb0
  obtain ⟨s, hs⟩ : ∃ s, s = (textV kd (numB a) (numB b)).1 := ⟨_, rfl⟩
  obtain ⟨t, hte⟩ : ∃ t, t = (textV kd (numB a) (numB b)).2 := ⟨_, rfl⟩
  have HS := Lib.hid hs; clear hs
  have HE := Lib.hid hte; clear hte
  go_enter Tryd.func4, Tryd.ntmps4
  go_wp2_with fail
  refine (refText_any kd a b _ HA.out HBB.out (HT.out.below (HB0.out _))).mono ?_
  rintro e w1 ⟨rfl, hb1⟩
  rw [← HS.out, ← HE.out]
  have HB1 := Lib.hid ((HB0.out _).trans (hb1.mono (by simp)))
  have c0 := (hb1.cell (p := ⟨w.heap.size, 0, none⟩) (by simp)).trans ((Blk.new w 49 [.int .i64 kd, .int .i64 a, .int .i64 b]).at_ 0 rfl)
  have c1 := (hb1.cell (p := ⟨w.heap.size, 1, none⟩) (by simp)).trans ((Blk.new w 49 [.int .i64 kd, .int .i64 a, .int .i64 b]).at_ 1 rfl)
  have c2 := (hb1.cell (p := ⟨w.heap.size, 2, none⟩) (by simp)).trans ((Blk.new w 49 [.int .i64 kd, .int .i64 a, .int .i64 b]).at_ 2 rfl)
  clear hb1
  go_wp2_with fail
  refine (text_any kd a b _ HA.out HBB.out (HT.out.below HB1.out)).mono ?_
  rintro e w2 ⟨rfl, hb2⟩
  rw [← HS.out, ← HE.out]
  have HB2 := Lib.hid (HB1.out.trans (hb2.mono HB1.out.size))
  clear hb2 c0 c1 c2
  go_wp2_with fail
  refine (example_any _ (HT.out.below HB2.out)).mono ?_
  rintro e w3 ⟨rfl, hb3⟩
  have HB3 := Lib.hid (HB2.out.trans (hb3.mono HB2.out.size))
  clear hb3
  go_wp2_with fail
  go_ret
  exact ⟨rfl, HB3.out⟩
end Go.Proofs.YtahnplemladjeaaDoor
