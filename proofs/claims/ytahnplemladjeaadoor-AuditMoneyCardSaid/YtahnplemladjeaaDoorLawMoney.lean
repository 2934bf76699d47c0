/- recyclinglaw59.AuditMoney returns true at all books. -/
import Derived.Test.YtahnplemladjeaaDoorLawMoneyOf
import Derived.Test.YtahnplemladjeaaDoorMoneyW
namespace Go.Proofs.YtahnplemladjeaaDoor
open Go.RowKit

theorem postings_later {w w' : World} {A : Option Addr} {l : List Pst} (h : Rd w w.heap.size 3 (PsR w w.heap.size) A l) (hb : Below w.heap.size w w') : Rd w' w'.heap.size 3 (PsR w' w'.heap.size) A l :=
  (h.belowR (fun x cs hx => PsR.later hb x cs hx) hb).more hb.size
theorem lawMoney_any (now hh cc as_ em ta gap tr ins bins ba pr sa cl pa co fe bi : Value) (poA : Option Addr) (poc : Nat) (pol : List Pst) (w : World) (hP : Rd w w.heap.size 3 (PsR w w.heap.size) poA pol) (ht : Tab w) :
    Calls Tryd.prog 8 #[.agg #[now, hh, cc, as_, em, ta, gap, tr, ins, bins, ba, pr, sa, cl, pa, co, fe, bi, .slice poA pol.length poc]] w fun e w' => e = .returned (.bool true) ∧ Below w.heap.size w w' := by
  by_cases hfull : 512 < pol.length
  · exact lawMoney_of [now, hh, cc, as_, em, ta, gap, tr, ins, bins, ba, pr, sa, cl, pa, co, fe, bi, .slice poA pol.length poc] rfl [] 8 w ht
      (fun w' _ => finds_full (refMoney_full _ _ _ _ _ _ _ _ _ _ _ _ _ _ _ _ _ _ _ _ _ w' hfull)) (fun w' _ => finds_full (money_full _ _ _ _ _ _ _ _ _ _ _ _ _ _ _ _ _ _ _ _ _ w' hfull))
  · exact lawMoney_of [now, hh, cc, as_, em, ta, gap, tr, ins, bins, ba, pr, sa, cl, pa, co, fe, bi, .slice poA pol.length poc] rfl (moneyF pol pol.length) 0 w ht
      (fun w' hb => refMoney_any _ _ _ _ _ _ _ _ _ _ _ _ _ _ _ _ _ _ _ _ _ (by omega) w' (postings_later hP hb)) (fun w' hb => money_any _ _ _ _ _ _ _ _ _ _ _ _ _ _ _ _ _ _ _ _ _ (by omega) w' (postings_later hP hb))
end Go.Proofs.YtahnplemladjeaaDoor
